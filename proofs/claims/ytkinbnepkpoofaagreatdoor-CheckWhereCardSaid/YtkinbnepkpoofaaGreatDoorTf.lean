/- Texts joined into one: Tr Wk Fd1 Fd2 Fd3 Fd4 Fd5. -/
import Derived.Test.YtkinbnepkpoofaaGreatDoorGa
import Derived.Test.YtkinbnepkpoofaaGreatDoorJh
import Derived.Test.YtkinbnepkpoofaaGreatDoorGb
import Derived.Test.YtkinbnepkpoofaaGreatDoorGd
/- Programs that are made of bytes: what is so of their parts. -/
set_option linter.unusedVariables false
set_option linter.unusedSectionVars false
set_option linter.unusedSimpArgs false
namespace Go.Proofs.YtkinbnepkpoofaaGreatDoor
open Go Go.AM
def unops : List Nm:=[[45],[126],[33]]
def binops : List Nm:=[[124,124],[38,38],[124],[94],[38],[61,61],[33,61],[60],[60,61],[62],[62,61],[60,60],[62,62],[43],[45],[42],[47],[37]]
def Ec (ints arrs:List Nm) (k:Int) (op:Nm) (n:Int) (nm:Nm) (m:Nat) : Prop :=
 (k = 0 ∧ op = [] ∧ nm = [] ∧ m = 0) ∨ (k = 1 ∧ op = [] ∧ n = 0 ∧ nm ∈ ints ∧ m = 0) ∨ (k = 2 ∧ op = [] ∧ n = 0 ∧ nm ∈ arrs ∧ m = 1) ∨
 (k = 3 ∧ op ∈ unops ∧ n = 0 ∧ nm = [] ∧ m = 1) ∨ (k = 4 ∧ op ∈ binops ∧ n = 0 ∧ nm = [] ∧ m = 2)
def In64 (n:Int) : Prop:=-9223372036854775808 ≤ n ∧ n < 9223372036854775808
inductive OkE (ints arrs:List Nm) : D → Prop
 | mk (d:D) (k:Int) (op:Nm) (n:Int) (nm:Nm) (kids:List D) (h:S.stDec EX d = some (k,op,n,nm,kids)) (hk:∀ x ∈ kids,OkE ints arrs x) (hn:In64 n) (hc:Ec ints arrs k op n nm kids.length) : OkE ints arrs d
def Sk (ints arrs:List Nm) (lp:Bool) (k:Int) (nm fn:Nm) (es:Nat) (body els:List D) : Prop :=
 (k = 0 ∧ nm ∈ ints ∧ fn = [] ∧ es = 1 ∧ body = [] ∧ els = []) ∨ (k = 1 ∧ nm ∈ arrs ∧ fn = [] ∧ es = 2 ∧ body = [] ∧ els = []) ∨ (k = 2 ∧ nm ∈ ints ∧ fn = [] ∧ es = 0 ∧ body = [] ∧ els = []) ∨
 (k = 3 ∧ nm ∈ ints ∧ ((fn = [103] ∧ es = 1) ∨ (fn = [104] ∧ es = 2)) ∧ body = [] ∧ els = []) ∨ (k = 4 ∧ nm = [] ∧ fn = [] ∧ es = 1) ∨ (k = 5 ∧ nm = [] ∧ fn = [] ∧ es = 1 ∧ els = []) ∨
 (k = 6 ∧ lp = true ∧ nm = [] ∧ fn = [] ∧ es = 0 ∧ body = [] ∧ els = []) ∨ (k = 7 ∧ lp = true ∧ nm = [] ∧ fn = [] ∧ es = 0 ∧ body = [] ∧ els = []) ∨
 (k = 8 ∧ nm = [] ∧ fn = [] ∧ es = 1 ∧ body = [] ∧ els = []) ∨ (k = 9 ∧ nm = [] ∧ fn = [] ∧ es = 1 ∧ body = [] ∧ els = [])
mutual
inductive OkS (ints arrs:List Nm) (mn:Bool) : Bool → Nat → Nat → Nat → D → Prop
 | mk (lp:Bool) (a a1 a2 b n1 n2:Nat) (d:D) (k tag:Int) (nm fn:Nm) (es body els:List D) (h:S.stDec ST d = some (k,tag,nm,fn,es,body,els))
   (ht:(tag = 0 ∧ a1 = a) ∨ (mn = true ∧ tag = (a:Int) + 1 ∧ a1 = a + 1)) (he:∀ x ∈ es,OkE ints arrs x) (hb:OkL ints arrs mn (lp || k == 5) a1 a2 n1 body) (hl:OkL ints arrs mn lp a2 b n2 els)
   (hc:Sk ints arrs lp k nm fn es.length body els) : OkS ints arrs mn lp a b (n1 + n2 + 1) d
inductive OkL (ints arrs:List Nm) (mn:Bool) : Bool → Nat → Nat → Nat → List D → Prop
 | nil (lp:Bool) (a:Nat) : OkL ints arrs mn lp a a 0 []
 | cons (lp:Bool) (a m b n1 n2:Nat) (d:D) (ds:List D) (h:OkS ints arrs mn lp a m n1 d) (hs:OkL ints arrs mn lp m b n2 ds) : OkL ints arrs mn lp a b (n1 + n2) (d :: ds)
end
theorem OkL.snoc {ints arrs:List Nm} {mn lp:Bool} : ∀ {ds:List D} {a m b n1 n2:Nat} {d:D},OkL ints arrs mn lp a m n1 ds → OkS ints arrs mn lp m b n2 d → OkL ints arrs mn lp a b (n1 + n2) (ds ++ [d])
 | [],a,m,b,n1,n2,d,h,hs=>by
  cases h
  rw [Nat.zero_add]
  exact OkL.cons lp a b b n2 0 d [] hs (.nil lp b)
 | x :: ds,a,m,b,n1,n2,d,h,hs=>by
  cases h with
  | cons _ _ m' _ k1 k2 _ _ h1 h2 =>
   have:=OkL.cons lp a m' b k1 (k2 + n2) x (ds ++ [d]) h1 (OkL.snoc h2 hs)
   rw [Nat.add_assoc]
   exact this
theorem OkS.pos {ints arrs:List Nm} {mn lp:Bool} {a b n:Nat} {d:D} (h:OkS ints arrs mn lp a b n d) : 0 < n:=by
 cases h; omega
theorem OkL.len {ints arrs:List Nm} {mn lp:Bool} : ∀ {ds:List D} {a b n:Nat},OkL ints arrs mn lp a b n ds → ds.length ≤ n
 | [],_,_,_,_=>by simp
 | x :: ds,a,b,n,h=>by
  cases h with
  | cons _ _ m _ k1 k2 _ _ h1 h2 =>
   have:=h1.pos
   have:=h2.len
   simp; omega
mutual
theorem OkS.le {ints arrs:List Nm} {mn lp:Bool} {a b n:Nat} {d:D} : OkS ints arrs mn lp a b n d → a ≤ b
 | .mk _ _ a1 a2 _ _ _ _ _ _ _ _ _ _ _ _ ht _ hb hl _=>by
  have h1:=hb.le
  have h2:=hl.le
  rcases ht with ⟨_,h⟩ | ⟨_,_,h⟩ <;> omega
theorem OkL.le {ints arrs:List Nm} {mn lp:Bool} {a b n:Nat} {ds:List D} : OkL ints arrs mn lp a b n ds → a ≤ b
 | .nil _ _=>Nat.le_refl _
 | .cons _ _ _ _ _ _ _ _ h hs=>Nat.le_trans h.le hs.le
end
mutual
theorem OkS.tags {ints arrs:List Nm} {mn lp:Bool} {a b n:Nat} {d:D} : OkS ints arrs mn lp a b n d → b ≤ a + n
 | .mk _ _ a1 a2 _ _ _ _ _ _ _ _ _ _ _ _ ht _ hb hl _=>by
  have h1:=hb.tags
  have h2:=hl.tags
  rcases ht with ⟨_,h⟩ | ⟨_,_,h⟩ <;> omega
theorem OkL.tags {ints arrs:List Nm} {mn lp:Bool} {a b n:Nat} {ds:List D} : OkL ints arrs mn lp a b n ds → b ≤ a + n
 | .nil _ _=>by omega
 | .cons _ _ _ _ _ _ _ _ h hs=>by
  have h1:=h.tags
  have h2:=hs.tags
  omega
end
theorem OkS.dec {ints arrs:List Nm} {mn lp:Bool} {a b n:Nat} {d:D} (h:OkS ints arrs mn lp a b n d) : ∃ p,S.stDec ST d = some p:=by
 cases h with
 | mk _ _ a1 a2 _ n1 n2 _ k tag nm fn es body els h=>exact ⟨_,h⟩
theorem OkS.stD {ints arrs:List Nm} {mn lp:Bool} {a b n:Nat} {d:D} (h:OkS ints arrs mn lp a b n d) {p:Int × Int × Nm × Nm × List D × List D × List D} (hp:S.stDec ST d = some p) : OkS ints arrs mn lp a b n (stD p):=by
 cases h with
 | mk _ _ a1 a2 _ n1 n2 _ k tag nm fn es body els h ht he hb hl hc =>
  rw [h] at hp
  cases hp
  exact .mk lp a a1 a2 b n1 n2 _ k tag nm fn es body els rfl ht he hb hl hc
end Go.Proofs.YtkinbnepkpoofaaGreatDoor
/- Rules for walks; a program of bytes: what is handed on. -/
set_option maxRecDepth 100000
namespace Go.Proofs.YtkinbnepkpoofaaGreatDoor
open Go Go.AM
structure Has (B:S.BookM) (f:FuncId) (i:Fi) : Prop where
 fi : B.fi f = some i
 known : B.known f = none
 norm : ∀ xs,B.norm f xs = xs
theorem lentB {B:S.BookM} (hT:B.T = T) {f:FuncId} {i:Fi} (h:Has B f i) {s:S.Sg} {lf:Nat} {xs:List AV} {H:Heap} {x:S.Hms.T s.rs × S.Hbs.T s.hs} (hb:S.bodyS T SG (S.sem B) i lf xs H (S.endS s) = some x) : S.lentS (S.sem B) s f xs H = some x:=by
 refine S.lent_rule (sg:=SG) h.fi h.known (h.norm xs) (by rw [hT]; exact hb) (hI:=S.Sgs.ok_none rfl _ _)
theorem pureB {B:S.BookM} (hT:B.T = T) {f:FuncId} {i:Fi} (h:Has B f i) {l:List S.Hm} {lf:Nat} {xs:List AV} {x:S.Hms.T l} (hb:S.bodyS T SG (S.sem B) i lf xs [] (S.endP l) = some x) : S.pureS (S.sem B) l f xs = some x:=by
 refine S.pure_rule (sg:=SG) h.fi h.known (h.norm xs) (by rw [hT]; exact hb) (hI:=S.Sgs.ok_none rfl _ _)
theorem tmodC (a b:Nat) : Int.tmod (a:Int) (b:Int) = ((a % b : Nat) : Int):=rfl
theorem tmod16 (a:Nat) : Int.tmod (a:Int) (16:Int) = ((a % 16 : Nat) : Int):=rfl
theorem tmod7 (a:Nat) : Int.tmod (a:Int) (7:Int) = ((a % 7 : Nat) : Int):=rfl
theorem tmod10 (a:Nat) : Int.tmod (a:Int) (10:Int) = ((a % 10 : Nat) : Int):=rfl
theorem tmod3 (a:Nat) : Int.tmod (a:Int) (3:Int) = ((a % 3 : Nat) : Int):=rfl
theorem tmod22 (a:Nat) : Int.tmod (a:Int) (22:Int) = ((a % 22 : Nat) : Int):=rfl
theorem tmod32 (a:Nat) : Int.tmod (a:Int) (32:Int) = ((a % 32 : Nat) : Int):=rfl
theorem tdiv16 {a:Nat} (h:a < 256) : IntKind.wrap .i64 (Int.tdiv (a:Int) (16:Int)) = ((a / 16 : Nat) : Int):=by
 rw [show Int.tdiv (a:Int) (16:Int) = ((a / 16 : Nat) : Int) from rfl]
 exact wrap_ok (by omega) (by omega)
theorem wrap_pred {n:Nat} (h:0 < n) (hn:n ≤ 1000) : IntKind.wrap .i64 ((n:Int) - 1) = ((n - 1 : Nat) : Int):=by
 rw [wrap_ok (by omega) (by omega)]; omega
def Bytes (l:List D) : Prop:=∀ d ∈ l,∃ b : Nat,b < 256 ∧ d = .int .u8 b
abbrev FH (l:List D) (t:Nat) (n r:D) (e g:Nat) (m:Bool) : Heap:=[some (.c 7 [.agg [.sl false 1 l,.int .i64 t,n,r,.int .i64 e,.int .i64 g,.bool m]])]
abbrev FT (l:List D) (t:Nat) (n r:D) (e g:Nat) (m:Bool) : S.Hbs.T [.c [.sl 1,.int .i64,.any,.any,.int .i64,.int .i64,.bool]]:=((l,(t:Int),n,r,(e:Int),(g:Int),m,()),())
abbrev nmD (l:List Nm) : D:=.sl true 1 (strs l)
theorem pick_nm {l:List Nm} (hl:l ≠ []) {b:Nat} (hb:b < 256) : ∃ nm ∈ l,(strs l)[Int.toNat (Int.tmod (IntKind.wrap .i64 (Int.tdiv (b:Int) (16:Int))) (((strs l).length : Nat) : Int))]? = some (.str nm) ∧
  decide ((0:Int) ≤ Int.tmod (IntKind.wrap .i64 (Int.tdiv (b:Int) (16:Int))) (((strs l).length : Nat) : Int)) = true ∧ decide ((((strs l).length : Nat) : Int) ≠ (0:Int)) = true:=by
 have h0 : 0 < l.length:=List.length_pos_iff.2 hl
 have hlt : b / 16 % (strs l).length < l.length:=by rw [List.length_map]; exact Nat.mod_lt _ h0
 rw [tdiv16 hb,tmodC]
 refine ⟨l[b / 16 % (strs l).length],List.getElem_mem hlt,?_,?_,?_⟩
 ·
  rw [Int.toNat_natCast,List.getElem?_map,List.getElem?_eq_getElem hlt]; rfl
 ·
  rw [decide_eq_true_eq]; omega
 ·
  rw [decide_eq_true_eq,List.length_map]; omega
theorem pick_L {L:List D} {q k:Nat} (hk:L.length = k) (h0:0 < k) : ∃ d ∈ L,L[Int.toNat (((q % k : Nat) : Int))]? = some d:=by
 have hlt : q % k < L.length:=by rw [hk]; exact Nat.mod_lt _ h0
 exact ⟨L[q % k],List.getElem_mem hlt,by rw [Int.toNat_natCast,List.getElem?_eq_getElem hlt]⟩
theorem dtrue {p:Prop} [Decidable p] (h:p) : decide p = true:=decide_eq_true h
theorem dfalse {p:Prop} [Decidable p] (h:¬ p) : decide p = false:=decide_eq_false h
abbrev tens : List D:=[.int .i64 0,.int .i64 1,.int .i64 2,.int .i64 3,.int .i64 (-1),.int .i64 5,.int .i64 7,.int .i64 (-9223372036854775808),.int .i64 64,.int .i64 9223372036854775807]
theorem pick_ten {b:Nat} (hb:b < 256) : ∃ n : Int,In64 n ∧ tens[Int.toNat (Int.tmod (IntKind.wrap .i64 (Int.tdiv (b:Int) (16:Int))) (10:Int))]? = some (.int .i64 n) ∧ decide ((0:Int) ≤ Int.tmod (IntKind.wrap .i64 (Int.tdiv (b:Int) (16:Int))) (10:Int)) = true:=by
 rw [tdiv16 hb,tmod10]
 obtain ⟨d,hd,h⟩:=pick_L (L:=tens) (q:=b / 16) (k:=10) rfl (by omega)
 have : ∃ n : Int,In64 n ∧ d = .int .i64 n:=by
  simp only [tens,List.mem_cons,List.not_mem_nil,or_false] at hd
  rcases hd with rfl | rfl | rfl | rfl | rfl | rfl | rfl | rfl | rfl | rfl <;> exact ⟨_,⟨by decide,by decide⟩,rfl⟩
 obtain ⟨n,hn,rfl⟩:=this
 exact ⟨n,hn,h,dtrue (by omega)⟩
abbrev un3 : List D:=[.str [45],.str [126],.str [33]]
theorem pick_un {b:Nat} (hb:b < 256) : ∃ o ∈ unops,un3[Int.toNat (Int.tmod (IntKind.wrap .i64 (Int.tdiv (b:Int) (16:Int))) (3:Int))]? = some (.str o) ∧ decide ((0:Int) ≤ Int.tmod (IntKind.wrap .i64 (Int.tdiv (b:Int) (16:Int))) (3:Int)) = true:=by
 rw [tdiv16 hb,tmod3]
 obtain ⟨d,hd,h⟩:=pick_L (L:=un3) (q:=b / 16) (k:=3) rfl (by omega)
 have : ∃ o ∈ unops,d = .str o:=by
  simp only [un3,List.mem_cons,List.not_mem_nil,or_false] at hd
  rcases hd with rfl | rfl | rfl <;> exact ⟨_,by decide,rfl⟩
 obtain ⟨n,hn,rfl⟩:=this
 exact ⟨n,hn,h,dtrue (by omega)⟩
abbrev bin22 : List D:=[.str [124,124],.str [38,38],.str [124],.str [94],.str [38],.str [61,61],.str [33,61],.str [60],.str [60,61],.str [62],.str [62,61],.str [60,60],.str [62,62],.str [43],.str [45],.str [42],.str [47],.str [37],.str [60],.str [43],.str [45],.str [61,61]]
theorem pick_bin (b:Nat) : ∃ o ∈ binops,bin22[Int.toNat (Int.tmod (b:Int) (22:Int))]? = some (.str o) ∧ decide ((0:Int) ≤ Int.tmod (b:Int) (22:Int)) = true:=by
 rw [tmod22]
 obtain ⟨d,hd,h⟩:=pick_L (L:=bin22) (q:=b) (k:=22) rfl (by omega)
 have : ∃ o ∈ binops,d = .str o:=by
  simp only [bin22,List.mem_cons,List.not_mem_nil,or_false] at hd
  rcases hd with rfl | rfl | rfl | rfl | rfl | rfl | rfl | rfl | rfl | rfl | rfl | rfl | rfl | rfl | rfl | rfl | rfl | rfl | rfl | rfl | rfl | rfl <;> exact ⟨_,by decide,rfl⟩
 obtain ⟨n,hn,rfl⟩:=this
 exact ⟨n,hn,h,dtrue (by omega)⟩
theorem Ok_num {ints arrs:List Nm} {n:Int} (h:In64 n) : OkE ints arrs (.agg [.int .i64 0,.str [],.int .i64 n,.str [],.sl true 0 []]) :=
 .mk _ 0 [] n [] [] rfl (fun x hx=>by cases hx) h (.inl ⟨rfl,rfl,rfl,rfl⟩)
theorem Ok_var {ints arrs:List Nm} {nm:Nm} (h:nm ∈ ints) : OkE ints arrs (.agg [.int .i64 1,.str [],.int .i64 0,.str nm,.sl true 0 []]) :=
 .mk _ 1 [] 0 nm [] rfl (fun x hx=>by cases hx) ⟨by decide,by decide⟩ (.inr (.inl ⟨rfl,rfl,rfl,h,rfl⟩))
theorem Ok_exD {ints arrs:List Nm} {d:D} (h:OkE ints arrs d) {p:Int × Nm × Int × Nm × List D} (hd:S.stDec EX d = some p) : OkE ints arrs (exD p):=by
 cases h with
 | mk _ k op n nm kids h hk hn hc =>
  rw [h] at hd
  cases hd
  exact .mk _ k op n nm kids rfl hk hn hc
theorem Ok_index {ints arrs:List Nm} {nm:Nm} (h:nm ∈ arrs) {d:D} (hd:OkE ints arrs d) : OkE ints arrs (.agg [.int .i64 2,.str [],.int .i64 0,.str nm,.sl true 5 [d]]) :=
 .mk _ 2 [] 0 nm [d] rfl (fun x hx=>by cases List.mem_singleton.1 hx; exact hd) ⟨by decide,by decide⟩ (.inr (.inr (.inl ⟨rfl,rfl,rfl,h,rfl⟩)))
theorem Ok_unary {ints arrs:List Nm} {o:Nm} (h:o ∈ unops) {d:D} (hd:OkE ints arrs d) : OkE ints arrs (.agg [.int .i64 3,.str o,.int .i64 0,.str [],.sl true 5 [d]]) :=
 .mk _ 3 o 0 [] [d] rfl (fun x hx=>by cases List.mem_singleton.1 hx; exact hd) ⟨by decide,by decide⟩ (.inr (.inr (.inr (.inl ⟨rfl,h,rfl,rfl,rfl⟩))))
theorem Ok_binary {ints arrs:List Nm} {o:Nm} (h:o ∈ binops) {d e:D} (hd:OkE ints arrs d) (he:OkE ints arrs e) : OkE ints arrs (.agg [.int .i64 4,.str o,.int .i64 0,.str [],.sl true 5 [d,e]]) :=
 .mk _ 4 o 0 [] [d,e] rfl (fun x hx=>by
  rcases List.mem_cons.1 hx with rfl | hx
  ·
   exact hd
  ·
   cases List.mem_singleton.1 hx; exact he) ⟨by decide,by decide⟩ (.inr (.inr (.inr (.inr ⟨rfl,h,rfl,rfl,rfl⟩))))
theorem OkE.dec {ints arrs:List Nm} {d:D} (h:OkE ints arrs d) : ∃ p,S.stDec EX d = some p:=by
 cases h with
 | mk _ k op n nm kids h hk hn hc=>exact ⟨_,h⟩
end Go.Proofs.YtkinbnepkpoofaaGreatDoor
/- What the bytes' reader and the expressions of it come to. -/
namespace Go.Proofs.YtkinbnepkpoofaaGreatDoor
open Go Go.AM
section
variable {B:S.BookM} (hT:B.T = T) (h194:Has B 194 fi194)
include hT h194
theorem eq194 {l:List D} (hl:Bytes l) (hs:l.length ≤ 9223372036854775807) {t:Nat} (ht:t ≤ l.length) (n r:D) (e g:Nat) (m:Bool) :
  ∃ b t' : Nat,b < 256 ∧ t ≤ t' ∧ t' ≤ l.length ∧ S.lentS (S.sem B) (SF [.int .i64]) 194 [.ptr 0 0 0] (FH l t n r e g m) = some (((b:Int),()),FT l t' n r e g m):=by
 by_cases h : l.length ≤ t
 ·
  refine ⟨0,t,by omega,by omega,ht,lentB hT h194 (lf:=0) ((F194_eq _ _ _ _ _ _ _ _ _).trans ?_)⟩
  unfold F194
  refine S.cpos (by rw [decide_eq_true_eq]; omega) ?_
  rfl
 ·
  have hlt : t < l.length:=by omega
  obtain ⟨b,hb,hd⟩:=hl _ (List.getElem_mem hlt)
  have w1 : IntKind.wrap .i64 ((t:Int) + 1) = ((t + 1 : Nat) : Int):=wrap_succ hlt hs
  have w2 : IntKind.wrap .i64 (((t + 1 : Nat) : Int) - 1) = (t:Int):=by rw [wrap_ok (by omega) (by omega)]; omega
  have w3 : IntKind.wrap .i64 (b:Int) = (b:Int):=wrap_ok (by omega) (by omega)
  refine ⟨b,t + 1,hb,by omega,by omega,lentB hT h194 (lf:=0) ((F194_eq _ _ _ _ _ _ _ _ _).trans ?_)⟩
  unfold F194
  refine S.cneg (by rw [decide_eq_false_iff_not]; omega) ?_
  rw [w1,w2]
  refine S.cpos (by rw [decide_eq_true_eq]; omega) ?_
  refine S.optP (a:=.int .u8 b) (by rw [Int.toNat_natCast,List.getElem?_eq_getElem hlt,hd]) ?_
  refine S.optP (asInt_int _ _) ?_
  rw [w3]
theorem eq195 (h195:Has B 195 fi195) {ints arrs:List Nm} (hi:ints ≠ []) (ha:arrs ≠ []) {l:List D} (hl:Bytes l) (hs:l.length ≤ 9223372036854775807) : ∀ (deep:Nat),deep ≤ 100 → ∀ {t:Nat},t ≤ l.length → ∀ (e g:Nat) (m:Bool),
  ∃ (d:D) (t' : Nat),t ≤ t' ∧ t' ≤ l.length ∧ OkE ints arrs d ∧ S.lentS (S.sem B) (SF [.any]) 195 [.ptr 0 0 0,.im (.int .i64 deep)] (FH l t (nmD ints) (nmD arrs) e g m) = some ((d,()),FT l t' (nmD ints) (nmD arrs) e g m):=by
 intro deep
 induction deep with
 | zero =>
  intro hdp t ht e g m
  obtain ⟨b,t1,hb,h1,h2,hn⟩:=eq194 hT h194 hl hs ht (nmD ints) (nmD arrs) e g m
  obtain ⟨n,hn64,g1,g2⟩:=pick_ten hb
  obtain ⟨nm,hnm,p1,p2,p3⟩:=pick_nm hi hb
  by_cases hk : b % 16 % 7 < 3
  ·
   refine ⟨_,t1,h1,h2,Ok_num hn64,lentB hT h195 (lf:=0) ((F195_eq _ _ _ _ _ _ _ _ _ _).trans ?_)⟩
   unfold F195
   refine S.optP hn ?_
   dsimp only
   refine S.cpos (dtrue (by omega)) ?_
   refine S.cpos (dtrue (by rw [tmod16,tmod7]; omega)) ?_
   refine S.cpos g2 ?_
   refine S.optP g1 ?_
   refine S.optP (asInt_int _ _) ?_
   rfl
  ·
   refine ⟨_,t1,h1,h2,Ok_var hnm,lentB hT h195 (lf:=0) ((F195_eq _ _ _ _ _ _ _ _ _ _).trans ?_)⟩
   unfold F195
   refine S.optP hn ?_
   dsimp only
   refine S.cpos (dtrue (by omega)) ?_
   refine S.cneg (dfalse (by rw [tmod16,tmod7]; omega)) ?_
   refine S.cpos (dtrue (by rw [tmod16,tmod7]; omega)) ?_
   repeat first
    | refine S.optP (asSl_sl _ _ _) ?_
    | refine S.cpos p3 ?_
    | refine S.cpos p2 ?_
    | refine S.optP p1 ?_
    | refine S.optP (asStr_str _) ?_
    | refine S.cpos (dtrue rfl) ?_
    | refine S.cpos (S.eqA_refl _) ?_
    | refine S.cpos (beq_self_eq_true _) ?_
   rfl
 | succ deep ih =>
  intro hdp t ht e g m
  obtain ⟨b,t1,hb,h1,h2,hn⟩:=eq194 hT h194 hl hs ht (nmD ints) (nmD arrs) e g m
  have wp : IntKind.wrap .i64 (((deep + 1 : Nat) : Int) - 1) = (deep:Int):=by rw [wrap_ok (by omega) (by omega)]; omega
  have c1 : decide (((deep + 1 : Nat) : Int) < 1) = false:=dfalse (by omega)
  by_cases k3 : b % 16 < 3
  ·
   obtain ⟨n,hn64,g1,g2⟩:=pick_ten hb
   refine ⟨_,t1,h1,h2,Ok_num hn64,lentB hT h195 (lf:=0) ((F195_eq _ _ _ _ _ _ _ _ _ _).trans ?_)⟩
   unfold F195
   refine S.optP hn ?_
   dsimp only
   refine S.cneg c1 ?_
   refine S.cpos (dtrue (by rw [tmod16]; omega)) ?_
   refine S.cpos g2 ?_
   refine S.optP g1 ?_
   refine S.optP (asInt_int _ _) ?_
   rfl
  by_cases k7 : b % 16 < 7
  ·
   obtain ⟨nm,hnm,p1,p2,p3⟩:=pick_nm hi hb
   refine ⟨_,t1,h1,h2,Ok_var hnm,lentB hT h195 (lf:=0) ((F195_eq _ _ _ _ _ _ _ _ _ _).trans ?_)⟩
   unfold F195
   refine S.optP hn ?_
   dsimp only
   refine S.cneg c1 ?_
   refine S.cneg (dfalse (by rw [tmod16]; omega)) ?_
   refine S.cpos (dtrue (by rw [tmod16]; omega)) ?_
   repeat first
    | refine S.optP (asSl_sl _ _ _) ?_
    | refine S.cpos p3 ?_
    | refine S.cpos p2 ?_
    | refine S.optP p1 ?_
    | refine S.optP (asStr_str _) ?_
    | refine S.cpos (dtrue rfl) ?_
    | refine S.cpos (S.eqA_refl _) ?_
    | refine S.cpos (beq_self_eq_true _) ?_
   rfl
  obtain ⟨d,t2,h3,h4,hd,hx⟩:=ih (by omega) h2 e g m
  obtain ⟨p,hp⟩:=hd.dec
  by_cases k9 : b % 16 < 9
  ·
   obtain ⟨nm,hnm,p1,p2,p3⟩:=pick_nm ha hb
   refine ⟨_,t2,by omega,h4,Ok_index hnm (Ok_exD hd hp),lentB hT h195 (lf:=0) ((F195_eq _ _ _ _ _ _ _ _ _ _).trans ?_)⟩
   unfold F195
   refine S.optP hn ?_
   dsimp only
   rw [wp]
   refine S.cneg c1 ?_
   refine S.cneg (dfalse (by rw [tmod16]; omega)) ?_
   refine S.cneg (dfalse (by rw [tmod16]; omega)) ?_
   refine S.cpos (dtrue (by rw [tmod16]; omega)) ?_
   repeat first
    | refine S.optP (asSl_sl _ _ _) ?_
    | refine S.cpos p3 ?_
    | refine S.cpos p2 ?_
    | refine S.optP p1 ?_
    | refine S.optP (asStr_str _) ?_
    | refine S.cpos (dtrue rfl) ?_
    | refine S.cpos (S.eqA_refl _) ?_
    | refine S.cpos (beq_self_eq_true _) ?_
    | (refine S.optP hx ?_; dsimp only)
    | refine S.optP hp ?_
   rfl
  by_cases k10 : b % 16 < 10
  ·
   obtain ⟨o,ho,p1,p2⟩:=pick_un hb
   refine ⟨_,t2,by omega,h4,Ok_unary ho (Ok_exD hd hp),lentB hT h195 (lf:=0) ((F195_eq _ _ _ _ _ _ _ _ _ _).trans ?_)⟩
   unfold F195
   refine S.optP hn ?_
   dsimp only
   rw [wp]
   refine S.cneg c1 ?_
   refine S.cneg (dfalse (by rw [tmod16]; omega)) ?_
   refine S.cneg (dfalse (by rw [tmod16]; omega)) ?_
   refine S.cneg (dfalse (by rw [tmod16]; omega)) ?_
   refine S.cpos (dtrue (by rw [tmod16]; omega)) ?_
   repeat first
    | refine S.cpos p2 ?_
    | refine S.optP p1 ?_
    | refine S.optP (asStr_str _) ?_
    | refine S.cpos (dtrue rfl) ?_
    | refine S.cpos (S.eqA_refl _) ?_
    | refine S.cpos (beq_self_eq_true _) ?_
    | (refine S.optP hx ?_; dsimp only)
    | refine S.optP hp ?_
   rfl
  ·
   obtain ⟨b2,t3,hb2,h5,h6,hn2⟩:=eq194 hT h194 hl hs h4 (nmD ints) (nmD arrs) e g m
   obtain ⟨o,ho,p1,p2⟩:=pick_bin b2
   obtain ⟨d2,t4,h7,h8,hd2,hx2⟩:=ih (by omega) h6 e g m
   obtain ⟨q,hq⟩:=hd2.dec
   refine ⟨_,t4,by omega,h8,Ok_binary ho (Ok_exD hd hp) (Ok_exD hd2 hq),lentB hT h195 (lf:=0) ((F195_eq _ _ _ _ _ _ _ _ _ _).trans ?_)⟩
   unfold F195
   refine S.optP hn ?_
   dsimp only
   rw [wp]
   refine S.cneg c1 ?_
   refine S.cneg (dfalse (by rw [tmod16]; omega)) ?_
   refine S.cneg (dfalse (by rw [tmod16]; omega)) ?_
   refine S.cneg (dfalse (by rw [tmod16]; omega)) ?_
   refine S.cneg (dfalse (by rw [tmod16]; omega)) ?_
   repeat first
    | refine S.cpos p2 ?_
    | refine S.optP p1 ?_
    | refine S.optP (asStr_str _) ?_
    | refine S.cpos (dtrue rfl) ?_
    | refine S.cpos (S.eqA_refl _) ?_
    | refine S.cpos (beq_self_eq_true _) ?_
    | (refine S.optP hx ?_; dsimp only)
    | refine S.optP hp ?_
    | (refine S.optP hn2 ?_; dsimp only)
    | (refine S.optP hx2 ?_; dsimp only)
    | refine S.optP hq ?_
   rfl
end
end Go.Proofs.YtkinbnepkpoofaaGreatDoor
/- What the statements of bytes come to. -/
namespace Go.Proofs.YtkinbnepkpoofaaGreatDoor
open Go Go.AM
def StmtOk (B:S.BookM) (ints arrs:List Nm) (l:List D) (deep:Nat) : Prop:=∀ {t:Nat},t ≤ l.length → ∀ {e g:Nat} (m lp:Bool),g + e ≤ 998 →
 ∃ (d:D) (t' e' g' n : Nat),t ≤ t' ∧ t' ≤ l.length ∧ OkS ints arrs m lp g g' n d ∧ e' + n = e + 1 ∧
  S.lentS (S.sem B) (SF [.any]) 152 [.ptr 0 0 0,.im (.int .i64 deep),.im (.bool lp)] (FH l t (nmD ints) (nmD arrs) e g m) = some ((d,()),FT l t' (nmD ints) (nmD arrs) e' g' m)
def StmtsOk (B:S.BookM) (ints arrs:List Nm) (l:List D) (deep:Nat) : Prop:=∀ {t:Nat},t ≤ l.length → ∀ {e g:Nat} (m lp:Bool),g + e ≤ 999 → ∀ {most:Nat},most ≤ 100 →
 ∃ (ds:List D) (t' e' g' n : Nat),t ≤ t' ∧ t' ≤ l.length ∧ OkL ints arrs m lp g g' n ds ∧ e' + n = e ∧
  S.lentS (S.sem B) (SF [.sl 7]) 96 [.ptr 0 0 0,.im (.int .i64 deep),.im (.int .i64 most),.im (.bool lp)] (FH l t (nmD ints) (nmD arrs) e g m) = some ((ds,()),FT l t' (nmD ints) (nmD arrs) e' g' m)
section
variable {B:S.BookM} (hT:B.T = T)
include hT
theorem L96_at {ints arrs:List Nm} {l:List D} (hs:l.length ≤ 9223372036854775807) {deep:Nat} (hd:deep ≤ 100) (st:StmtOk B ints arrs l deep) (m lp:Bool) {most:Nat} (hm:most ≤ 100) (g0 e0:Nat) (hge:g0 + e0 ≤ 999) (lf:Nat) :
  ∀ (q fuel:Nat),q < fuel → ∀ (i t e g n:Nat) (out:List D),most - i = q → i ≤ most → t ≤ l.length → OkL ints arrs m lp g0 g n out → e + n = e0 →
   ∃ (ds:List D) (t' e' g' n' : Nat),t ≤ t' ∧ t' ≤ l.length ∧ OkL ints arrs m lp g0 g' n' ds ∧ e' + n' = e0 ∧
    L96_1 (S.sem B) lf (deep:Int) (most:Int) lp fuel ((i:Int),l,(t:Int),nmD ints,nmD arrs,(e:Int),(g:Int),m,out) = some ((ds,()),FT l t' (nmD ints) (nmD arrs) e' g' m):=by
 intro q
 induction q with
 | zero =>
  intro fuel hf i t e g n out hq hi ht ho he
  obtain ⟨fuel,rfl⟩ : ∃ p,fuel = p + 1:=⟨fuel - 1,by omega⟩
  refine ⟨out,t,e,g,n,by omega,ht,ho,he,?_⟩
  simp only [L96_1,B96_1,List.drop_zero,List.take_length]
  refine S.cneg (dfalse (by omega)) ?_
  rfl
 | succ q ih =>
  intro fuel hf i t e g n out hq hi ht ho he
  obtain ⟨fuel,rfl⟩ : ∃ p,fuel = p + 1:=⟨fuel - 1,by omega⟩
  simp only [L96_1,B96_1,List.drop_zero,List.take_length]
  by_cases h0 : 0 < e
  ·
   by_cases h1 : t < l.length
   ·
    have htag:=ho.tags
    have w1 : IntKind.wrap .i64 ((e:Int) - 1) = ((e - 1 : Nat) : Int):=by rw [wrap_ok (by omega) (by omega)]; omega
    have w2 : IntKind.wrap .i64 ((i:Int) + 1) = ((i + 1 : Nat) : Int):=wrap_succ (n:=most) (by omega) (by omega)
    obtain ⟨d, t', e', g', n', h2, h3, h4, h5, h6⟩ := st ht (e := e - 1) (g := g) m lp (by omega)
    obtain ⟨p,hp⟩:=h4.dec
    have hlen:=ho.len
    obtain ⟨ds,t2,e2,g2,n2,a1,a2,a3,a4,a5⟩:=ih fuel (by omega) (i + 1) t' e' g' (n + n') (out ++ [stD p]) (by omega) (by omega) h3 (ho.snoc (h4.stD hp)) (by omega)
    refine ⟨ds,t2,e2,g2,n2,by omega,a2,a3,a4,?_⟩
    refine S.cpos (dtrue (by omega)) ?_
    refine S.cpos (dtrue (by omega)) ?_
    refine S.cpos (dtrue (by omega)) ?_
    rw [w1,w2]
    refine S.optP h6 ?_
    refine S.optP hp ?_
    refine S.cpos (dtrue (by rw [List.length_append,List.length_singleton]; omega)) ?_
    refine S.cpos (dtrue (by rw [List.length_append,List.length_singleton]; omega)) ?_
    exact a5
   ·
    refine ⟨out,t,e,g,n,by omega,ht,ho,he,?_⟩
    refine S.cpos (dtrue (by omega)) ?_
    refine S.cpos (dtrue (by omega)) ?_
    refine S.cneg (dfalse (by omega)) ?_
    rfl
  ·
   refine ⟨out,t,e,g,n,by omega,ht,ho,he,?_⟩
   refine S.cpos (dtrue (by omega)) ?_
   refine S.cneg (dfalse (by omega)) ?_
   rfl
theorem eq96 (h96:Has B 96 fi96) {ints arrs:List Nm} {l:List D} (hs:l.length ≤ 9223372036854775807) {deep:Nat} (hd:deep ≤ 100) (st:StmtOk B ints arrs l deep) : StmtsOk B ints arrs l deep:=by
 intro t ht e g m lp hge most hm
 obtain ⟨ds, t', e', g', n', h1, h2, h3, h4, h5⟩ := L96_at hT hs hd st m lp hm g e hge (most + 1) most (most + 1) (by omega) 0 t e g 0 [] (by omega) (by omega) ht (.nil lp g) (by omega)
 refine ⟨ds, t', e', g', n', h1, h2, h3, h4, lentB hT h96 (lf := most + 1) ((F96_eq _ _ _ _ _ _ _ _ _ _ _ _).trans ?_)⟩
 exact h5
end
end Go.Proofs.YtkinbnepkpoofaaGreatDoor
/- What a statement of bytes comes to: by its kind. -/
namespace Go.Proofs.YtkinbnepkpoofaaGreatDoor
open Go Go.AM
section
variable {B:S.BookM} (hT:B.T = T) (h194:Has B 194 fi194) (h195:Has B 195 fi195)
include hT h194 h195
theorem st_store {ints arrs:List Nm} (hi:ints ≠ []) (ha:arrs ≠ []) {l:List D} (hl:Bytes l) (hs:l.length ≤ 9223372036854775807) {deep:Nat} (m lp:Bool) (hd:deep ≤ 100) (ih:0 < deep → StmtsOk B ints arrs l (deep - 1)) {b k:Nat} (hb:b < 256) (hk:k = 2 ∨ k = 3) {t:Nat} (ht:t ≤ l.length) {e g:Nat} (hge:g + e ≤ 999) {tag:Int} {a:Nat} (htag:(tag = 0 ∧ g = a) ∨ (m = true ∧ tag = (a:Int) + 1 ∧ g = a + 1))
  (l0:List D) (t0:Int) (n0 r0:D) (e0 g0:Int) (m0:Bool) (v3_2:Int) (v3_4:Bool) (v3_5:AV) (v3_6:AV) (v3_7:Bool) (v3_8:AV) (v3_9:AV) (v3_10:AV) (v3_11:AV) (v3_12:AV) (v3_13:Bool) (v3_14:AV) (v3_15:AV) (v3_16:AV) (v3_17:AV) (v3_18:AV) (v3_19:AV) (v3_20:AV) (v3_21:AV) (v3_22:AV) (v3_23:AV) (v3_24:AV) (v3_25:AV) (v3_26:AV) (v3_27:AV) (v3_28:Bool) (v3_29:Bool) (v3_30:AV) (v3_31:AV) (v3_32:AV) (v3_33:AV) (v3_34:AV) (v3_35:AV) (v3_36:Bool) :
  ∃ (d:D) (t' e' g' n : Nat),t ≤ t' ∧ t' ≤ l.length ∧ OkS ints arrs m lp a g' n d ∧ e' + n = e + 1 ∧ F152_3 (S.sem B) 0 (deep:Int) lp l0 t0 n0 r0 e0 g0 m0 (b:Int) (k:Int) v3_2 m v3_4 v3_5 v3_6 v3_7 v3_8 v3_9 v3_10 v3_11 v3_12 v3_13 v3_14 v3_15 v3_16 v3_17 v3_18 v3_19 v3_20 v3_21 v3_22 v3_23 v3_24 v3_25 v3_26 v3_27 v3_28 v3_29 v3_30 v3_31 v3_32 v3_33 v3_34 v3_35 v3_36 l (t:Int) (nmD ints) (nmD arrs) (e:Int) (g:Int) tag = some ((d,()),FT l t' (nmD ints) (nmD arrs) e' g' m):=by
   obtain ⟨nm,hnm,p1,p2,p3⟩:=pick_nm ha hb
   obtain ⟨d1,t1,x1,x2,xk,xx⟩:=eq195 hT h194 h195 hi ha hl hs 1 (by omega) ht e g m
   obtain ⟨xp,xq⟩:=xk.dec
   obtain ⟨d2,t2,y1,y2,yk,yx⟩:=eq195 hT h194 h195 hi ha hl hs 2 (by omega) x2 e g m
   obtain ⟨yp,yq⟩:=yk.dec
   refine ⟨stD (1,tag,nm,[],[exD xp,exD yp],[],[]),t2,e,g,0 + 0 + 1,by omega,y2,.mk lp a g g g 0 0 _ 1 tag nm [] [exD xp,exD yp] [] [] rfl htag (fun x hx=>by
     rcases List.mem_cons.1 hx with rfl | hx
     ·
      exact Ok_exD xk xq
     ·
      cases List.mem_singleton.1 hx; exact Ok_exD yk yq) (.nil _ _) (.nil _ _) (.inr (.inl ⟨rfl,hnm,rfl,rfl,rfl,rfl⟩)),by omega,?_⟩
   unfold F152_3
   rcases hk with hk | hk <;> (
    repeat first
     | refine S.cpos (beq_iff_eq.2 (by omega)) ?_
     | refine S.cneg (beq_eq_false_iff_ne.2 (by omega)) ?_
     | refine S.optP (asSl_sl _ _ _) ?_
     | refine S.cpos p3 ?_
     | refine S.cpos p2 ?_
     | refine S.optP p1 ?_
     | (refine S.optP xx ?_; dsimp only)
     | refine S.optP xq ?_
     | (refine S.optP yx ?_; dsimp only)
     | refine S.optP yq ?_
     | refine S.optP (asStr_str _) ?_
     | refine S.cpos (dtrue rfl) ?_
     | refine S.cpos (S.eqA_refl _) ?_
     | refine S.cpos (beq_self_eq_true _) ?_
    try rfl)
theorem st_read {ints arrs:List Nm} (hi:ints ≠ []) (ha:arrs ≠ []) {l:List D} (hl:Bytes l) (hs:l.length ≤ 9223372036854775807) {deep:Nat} (m lp:Bool) (hd:deep ≤ 100) (ih:0 < deep → StmtsOk B ints arrs l (deep - 1)) {b k:Nat} (hb:b < 256) (hk:k = 4) {t:Nat} (ht:t ≤ l.length) {e g:Nat} (hge:g + e ≤ 999) {tag:Int} {a:Nat} (htag:(tag = 0 ∧ g = a) ∨ (m = true ∧ tag = (a:Int) + 1 ∧ g = a + 1))
  (l0:List D) (t0:Int) (n0 r0:D) (e0 g0:Int) (m0:Bool) (v3_2:Int) (v3_4:Bool) (v3_5:AV) (v3_6:AV) (v3_7:Bool) (v3_8:AV) (v3_9:AV) (v3_10:AV) (v3_11:AV) (v3_12:AV) (v3_13:Bool) (v3_14:AV) (v3_15:AV) (v3_16:AV) (v3_17:AV) (v3_18:AV) (v3_19:AV) (v3_20:AV) (v3_21:AV) (v3_22:AV) (v3_23:AV) (v3_24:AV) (v3_25:AV) (v3_26:AV) (v3_27:AV) (v3_28:Bool) (v3_29:Bool) (v3_30:AV) (v3_31:AV) (v3_32:AV) (v3_33:AV) (v3_34:AV) (v3_35:AV) (v3_36:Bool) :
  ∃ (d:D) (t' e' g' n : Nat),t ≤ t' ∧ t' ≤ l.length ∧ OkS ints arrs m lp a g' n d ∧ e' + n = e + 1 ∧ F152_3 (S.sem B) 0 (deep:Int) lp l0 t0 n0 r0 e0 g0 m0 (b:Int) (k:Int) v3_2 m v3_4 v3_5 v3_6 v3_7 v3_8 v3_9 v3_10 v3_11 v3_12 v3_13 v3_14 v3_15 v3_16 v3_17 v3_18 v3_19 v3_20 v3_21 v3_22 v3_23 v3_24 v3_25 v3_26 v3_27 v3_28 v3_29 v3_30 v3_31 v3_32 v3_33 v3_34 v3_35 v3_36 l (t:Int) (nmD ints) (nmD arrs) (e:Int) (g:Int) tag = some ((d,()),FT l t' (nmD ints) (nmD arrs) e' g' m):=by
   obtain ⟨nm,hnm,p1,p2,p3⟩:=pick_nm hi hb
   refine ⟨stD (2,tag,nm,[],[],[],[]),t,e,g,0 + 0 + 1,by omega,ht,.mk lp a g g g 0 0 _ 2 tag nm [] [] [] [] rfl htag (fun x hx=>by cases hx) (.nil _ _) (.nil _ _) (.inr (.inr (.inl ⟨rfl,hnm,rfl,rfl,rfl,rfl⟩))),by omega,?_⟩
   unfold F152_3
   repeat first
    | refine S.cpos (beq_iff_eq.2 (by omega)) ?_
    | refine S.cneg (beq_eq_false_iff_ne.2 (by omega)) ?_
    | refine S.optP (asSl_sl _ _ _) ?_
    | refine S.cpos p3 ?_
    | refine S.cpos p2 ?_
    | refine S.optP p1 ?_
    | refine S.optP (asStr_str _) ?_
    | refine S.cpos (dtrue rfl) ?_
    | refine S.cpos (S.eqA_refl _) ?_
    | refine S.cpos (beq_self_eq_true _) ?_
   try rfl
theorem st_assign {ints arrs:List Nm} (hi:ints ≠ []) (ha:arrs ≠ []) {l:List D} (hl:Bytes l) (hs:l.length ≤ 9223372036854775807) {deep:Nat} (m lp:Bool) (hd:deep ≤ 100) (ih:0 < deep → StmtsOk B ints arrs l (deep - 1)) {b k:Nat} (hb:b < 256) (hk:k = 0 ∨ k = 1 ∨ k = 14 ∨ k = 15) {t:Nat} (ht:t ≤ l.length) {e g:Nat} (hge:g + e ≤ 999) {tag:Int} {a:Nat} (htag:(tag = 0 ∧ g = a) ∨ (m = true ∧ tag = (a:Int) + 1 ∧ g = a + 1))
  (l0:List D) (t0:Int) (n0 r0:D) (e0 g0:Int) (m0:Bool) (v3_2:Int) (v3_4:Bool) (v3_5:AV) (v3_6:AV) (v3_7:Bool) (v3_8:AV) (v3_9:AV) (v3_10:AV) (v3_11:AV) (v3_12:AV) (v3_13:Bool) (v3_14:AV) (v3_15:AV) (v3_16:AV) (v3_17:AV) (v3_18:AV) (v3_19:AV) (v3_20:AV) (v3_21:AV) (v3_22:AV) (v3_23:AV) (v3_24:AV) (v3_25:AV) (v3_26:AV) (v3_27:AV) (v3_28:Bool) (v3_29:Bool) (v3_30:AV) (v3_31:AV) (v3_32:AV) (v3_33:AV) (v3_34:AV) (v3_35:AV) (v3_36:Bool) :
  ∃ (d:D) (t' e' g' n : Nat),t ≤ t' ∧ t' ≤ l.length ∧ OkS ints arrs m lp a g' n d ∧ e' + n = e + 1 ∧ F152_3 (S.sem B) 0 (deep:Int) lp l0 t0 n0 r0 e0 g0 m0 (b:Int) (k:Int) v3_2 m v3_4 v3_5 v3_6 v3_7 v3_8 v3_9 v3_10 v3_11 v3_12 v3_13 v3_14 v3_15 v3_16 v3_17 v3_18 v3_19 v3_20 v3_21 v3_22 v3_23 v3_24 v3_25 v3_26 v3_27 v3_28 v3_29 v3_30 v3_31 v3_32 v3_33 v3_34 v3_35 v3_36 l (t:Int) (nmD ints) (nmD arrs) (e:Int) (g:Int) tag = some ((d,()),FT l t' (nmD ints) (nmD arrs) e' g' m):=by
   obtain ⟨nm,hnm,p1,p2,p3⟩:=pick_nm hi hb
   obtain ⟨d1,t1,x1,x2,xk,xx⟩:=eq195 hT h194 h195 hi ha hl hs 2 (by omega) ht e g m
   obtain ⟨xp,xq⟩:=xk.dec
   refine ⟨stD (0,tag,nm,[],[exD xp],[],[]),t1,e,g,0 + 0 + 1,by omega,x2,.mk lp a g g g 0 0 _ 0 tag nm [] [exD xp] [] [] rfl htag (fun x hx=>by cases List.mem_singleton.1 hx; exact Ok_exD xk xq) (.nil _ _) (.nil _ _) (.inl ⟨rfl,hnm,rfl,rfl,rfl,rfl⟩),by omega,?_⟩
   unfold F152_3
   rcases hk with hk | hk | hk | hk <;> (
    repeat first
     | refine S.cpos (beq_iff_eq.2 (by omega)) ?_
     | refine S.cneg (beq_eq_false_iff_ne.2 (by omega)) ?_
     | refine S.optP (asSl_sl _ _ _) ?_
     | refine S.cpos p3 ?_
     | refine S.cpos p2 ?_
     | refine S.optP p1 ?_
     | (refine S.optP xx ?_; dsimp only)
     | refine S.optP xq ?_
     | refine S.optP (asStr_str _) ?_
     | refine S.cpos (dtrue rfl) ?_
     | refine S.cpos (S.eqA_refl _) ?_
     | refine S.cpos (beq_self_eq_true _) ?_
    try rfl)
theorem st_break {ints arrs:List Nm} (hi:ints ≠ []) (ha:arrs ≠ []) {l:List D} (hl:Bytes l) (hs:l.length ≤ 9223372036854775807) {deep:Nat} (m lp:Bool) (hd:deep ≤ 100) (ih:0 < deep → StmtsOk B ints arrs l (deep - 1)) {b k:Nat} (hb:b < 256) (hk:k = 10 ∧ lp = true) {t:Nat} (ht:t ≤ l.length) {e g:Nat} (hge:g + e ≤ 999) {tag:Int} {a:Nat} (htag:(tag = 0 ∧ g = a) ∨ (m = true ∧ tag = (a:Int) + 1 ∧ g = a + 1))
  (l0:List D) (t0:Int) (n0 r0:D) (e0 g0:Int) (m0:Bool) (v3_2:Int) (v3_4:Bool) (v3_5:AV) (v3_6:AV) (v3_7:Bool) (v3_8:AV) (v3_9:AV) (v3_10:AV) (v3_11:AV) (v3_12:AV) (v3_13:Bool) (v3_14:AV) (v3_15:AV) (v3_16:AV) (v3_17:AV) (v3_18:AV) (v3_19:AV) (v3_20:AV) (v3_21:AV) (v3_22:AV) (v3_23:AV) (v3_24:AV) (v3_25:AV) (v3_26:AV) (v3_27:AV) (v3_28:Bool) (v3_29:Bool) (v3_30:AV) (v3_31:AV) (v3_32:AV) (v3_33:AV) (v3_34:AV) (v3_35:AV) (v3_36:Bool) :
  ∃ (d:D) (t' e' g' n : Nat),t ≤ t' ∧ t' ≤ l.length ∧ OkS ints arrs m lp a g' n d ∧ e' + n = e + 1 ∧ F152_3 (S.sem B) 0 (deep:Int) lp l0 t0 n0 r0 e0 g0 m0 (b:Int) (k:Int) v3_2 m v3_4 v3_5 v3_6 v3_7 v3_8 v3_9 v3_10 v3_11 v3_12 v3_13 v3_14 v3_15 v3_16 v3_17 v3_18 v3_19 v3_20 v3_21 v3_22 v3_23 v3_24 v3_25 v3_26 v3_27 v3_28 v3_29 v3_30 v3_31 v3_32 v3_33 v3_34 v3_35 v3_36 l (t:Int) (nmD ints) (nmD arrs) (e:Int) (g:Int) tag = some ((d,()),FT l t' (nmD ints) (nmD arrs) e' g' m):=by
   have hlp:=hk.2
   have hk:=hk.1
   refine ⟨stD (6,tag,[],[],[],[],[]),t,e,g,0 + 0 + 1,by omega,ht,.mk lp a g g g 0 0 _ 6 tag [] [] [] [] [] rfl htag (fun x hx=>by cases hx) (.nil _ _) (.nil _ _) (.inr (.inr (.inr (.inr (.inr (.inr (.inl ⟨rfl,hlp,rfl,rfl,rfl,rfl,rfl⟩))))))),by omega,?_⟩
   unfold F152_3
   repeat first
    | refine S.cpos (beq_iff_eq.2 (by omega)) ?_
    | refine S.cneg (beq_eq_false_iff_ne.2 (by omega)) ?_
    | refine S.optP (asSl_sl _ _ _) ?_
    | refine S.optP (asStr_str _) ?_
    | refine S.cpos (dtrue rfl) ?_
    | refine S.cpos (S.eqA_refl _) ?_
    | refine S.cpos (beq_self_eq_true _) ?_
   try rfl
theorem st_cont {ints arrs:List Nm} (hi:ints ≠ []) (ha:arrs ≠ []) {l:List D} (hl:Bytes l) (hs:l.length ≤ 9223372036854775807) {deep:Nat} (m lp:Bool) (hd:deep ≤ 100) (ih:0 < deep → StmtsOk B ints arrs l (deep - 1)) {b k:Nat} (hb:b < 256) (hk:k = 11 ∧ lp = true) {t:Nat} (ht:t ≤ l.length) {e g:Nat} (hge:g + e ≤ 999) {tag:Int} {a:Nat} (htag:(tag = 0 ∧ g = a) ∨ (m = true ∧ tag = (a:Int) + 1 ∧ g = a + 1))
  (l0:List D) (t0:Int) (n0 r0:D) (e0 g0:Int) (m0:Bool) (v3_2:Int) (v3_4:Bool) (v3_5:AV) (v3_6:AV) (v3_7:Bool) (v3_8:AV) (v3_9:AV) (v3_10:AV) (v3_11:AV) (v3_12:AV) (v3_13:Bool) (v3_14:AV) (v3_15:AV) (v3_16:AV) (v3_17:AV) (v3_18:AV) (v3_19:AV) (v3_20:AV) (v3_21:AV) (v3_22:AV) (v3_23:AV) (v3_24:AV) (v3_25:AV) (v3_26:AV) (v3_27:AV) (v3_28:Bool) (v3_29:Bool) (v3_30:AV) (v3_31:AV) (v3_32:AV) (v3_33:AV) (v3_34:AV) (v3_35:AV) (v3_36:Bool) :
  ∃ (d:D) (t' e' g' n : Nat),t ≤ t' ∧ t' ≤ l.length ∧ OkS ints arrs m lp a g' n d ∧ e' + n = e + 1 ∧ F152_3 (S.sem B) 0 (deep:Int) lp l0 t0 n0 r0 e0 g0 m0 (b:Int) (k:Int) v3_2 m v3_4 v3_5 v3_6 v3_7 v3_8 v3_9 v3_10 v3_11 v3_12 v3_13 v3_14 v3_15 v3_16 v3_17 v3_18 v3_19 v3_20 v3_21 v3_22 v3_23 v3_24 v3_25 v3_26 v3_27 v3_28 v3_29 v3_30 v3_31 v3_32 v3_33 v3_34 v3_35 v3_36 l (t:Int) (nmD ints) (nmD arrs) (e:Int) (g:Int) tag = some ((d,()),FT l t' (nmD ints) (nmD arrs) e' g' m):=by
   have hlp:=hk.2
   have hk:=hk.1
   refine ⟨stD (7,tag,[],[],[],[],[]),t,e,g,0 + 0 + 1,by omega,ht,.mk lp a g g g 0 0 _ 7 tag [] [] [] [] [] rfl htag (fun x hx=>by cases hx) (.nil _ _) (.nil _ _) (.inr (.inr (.inr (.inr (.inr (.inr (.inr (.inl ⟨rfl,hlp,rfl,rfl,rfl,rfl,rfl⟩)))))))),by omega,?_⟩
   unfold F152_3
   repeat first
    | refine S.cpos (beq_iff_eq.2 (by omega)) ?_
    | refine S.cneg (beq_eq_false_iff_ne.2 (by omega)) ?_
    | refine S.optP (asSl_sl _ _ _) ?_
    | refine S.optP (asStr_str _) ?_
    | refine S.cpos (dtrue rfl) ?_
    | refine S.cpos (S.eqA_refl _) ?_
    | refine S.cpos (beq_self_eq_true _) ?_
   try rfl
theorem st_assert {ints arrs:List Nm} (hi:ints ≠ []) (ha:arrs ≠ []) {l:List D} (hl:Bytes l) (hs:l.length ≤ 9223372036854775807) {deep:Nat} (m lp:Bool) (hd:deep ≤ 100) (ih:0 < deep → StmtsOk B ints arrs l (deep - 1)) {b k:Nat} (hb:b < 256) (hk:k = 12) {t:Nat} (ht:t ≤ l.length) {e g:Nat} (hge:g + e ≤ 999) {tag:Int} {a:Nat} (htag:(tag = 0 ∧ g = a) ∨ (m = true ∧ tag = (a:Int) + 1 ∧ g = a + 1))
  (l0:List D) (t0:Int) (n0 r0:D) (e0 g0:Int) (m0:Bool) (v3_2:Int) (v3_4:Bool) (v3_5:AV) (v3_6:AV) (v3_7:Bool) (v3_8:AV) (v3_9:AV) (v3_10:AV) (v3_11:AV) (v3_12:AV) (v3_13:Bool) (v3_14:AV) (v3_15:AV) (v3_16:AV) (v3_17:AV) (v3_18:AV) (v3_19:AV) (v3_20:AV) (v3_21:AV) (v3_22:AV) (v3_23:AV) (v3_24:AV) (v3_25:AV) (v3_26:AV) (v3_27:AV) (v3_28:Bool) (v3_29:Bool) (v3_30:AV) (v3_31:AV) (v3_32:AV) (v3_33:AV) (v3_34:AV) (v3_35:AV) (v3_36:Bool) :
  ∃ (d:D) (t' e' g' n : Nat),t ≤ t' ∧ t' ≤ l.length ∧ OkS ints arrs m lp a g' n d ∧ e' + n = e + 1 ∧ F152_3 (S.sem B) 0 (deep:Int) lp l0 t0 n0 r0 e0 g0 m0 (b:Int) (k:Int) v3_2 m v3_4 v3_5 v3_6 v3_7 v3_8 v3_9 v3_10 v3_11 v3_12 v3_13 v3_14 v3_15 v3_16 v3_17 v3_18 v3_19 v3_20 v3_21 v3_22 v3_23 v3_24 v3_25 v3_26 v3_27 v3_28 v3_29 v3_30 v3_31 v3_32 v3_33 v3_34 v3_35 v3_36 l (t:Int) (nmD ints) (nmD arrs) (e:Int) (g:Int) tag = some ((d,()),FT l t' (nmD ints) (nmD arrs) e' g' m):=by
   obtain ⟨d1,t1,x1,x2,xk,xx⟩:=eq195 hT h194 h195 hi ha hl hs 2 (by omega) ht e g m
   obtain ⟨xp,xq⟩:=xk.dec
   refine ⟨stD (9,tag,[],[],[exD xp],[],[]),t1,e,g,0 + 0 + 1,by omega,x2,.mk lp a g g g 0 0 _ 9 tag [] [] [exD xp] [] [] rfl htag (fun x hx=>by cases List.mem_singleton.1 hx; exact Ok_exD xk xq) (.nil _ _) (.nil _ _) (.inr (.inr (.inr (.inr (.inr (.inr (.inr (.inr (.inr (⟨rfl,rfl,rfl,rfl,rfl,rfl⟩)))))))))),by omega,?_⟩
   unfold F152_3
   repeat first
    | refine S.cpos (beq_iff_eq.2 (by omega)) ?_
    | refine S.cneg (beq_eq_false_iff_ne.2 (by omega)) ?_
    | refine S.optP (asSl_sl _ _ _) ?_
    | (refine S.optP xx ?_; dsimp only)
    | refine S.optP xq ?_
    | refine S.optP (asStr_str _) ?_
    | refine S.cpos (dtrue rfl) ?_
    | refine S.cpos (S.eqA_refl _) ?_
    | refine S.cpos (beq_self_eq_true _) ?_
   try rfl
theorem st_return {ints arrs:List Nm} (hi:ints ≠ []) (ha:arrs ≠ []) {l:List D} (hl:Bytes l) (hs:l.length ≤ 9223372036854775807) {deep:Nat} (m lp:Bool) (hd:deep ≤ 100) (ih:0 < deep → StmtsOk B ints arrs l (deep - 1)) {b k:Nat} (hb:b < 256) (hk:k = 13) {t:Nat} (ht:t ≤ l.length) {e g:Nat} (hge:g + e ≤ 999) {tag:Int} {a:Nat} (htag:(tag = 0 ∧ g = a) ∨ (m = true ∧ tag = (a:Int) + 1 ∧ g = a + 1))
  (l0:List D) (t0:Int) (n0 r0:D) (e0 g0:Int) (m0:Bool) (v3_2:Int) (v3_4:Bool) (v3_5:AV) (v3_6:AV) (v3_7:Bool) (v3_8:AV) (v3_9:AV) (v3_10:AV) (v3_11:AV) (v3_12:AV) (v3_13:Bool) (v3_14:AV) (v3_15:AV) (v3_16:AV) (v3_17:AV) (v3_18:AV) (v3_19:AV) (v3_20:AV) (v3_21:AV) (v3_22:AV) (v3_23:AV) (v3_24:AV) (v3_25:AV) (v3_26:AV) (v3_27:AV) (v3_28:Bool) (v3_29:Bool) (v3_30:AV) (v3_31:AV) (v3_32:AV) (v3_33:AV) (v3_34:AV) (v3_35:AV) (v3_36:Bool) :
  ∃ (d:D) (t' e' g' n : Nat),t ≤ t' ∧ t' ≤ l.length ∧ OkS ints arrs m lp a g' n d ∧ e' + n = e + 1 ∧ F152_3 (S.sem B) 0 (deep:Int) lp l0 t0 n0 r0 e0 g0 m0 (b:Int) (k:Int) v3_2 m v3_4 v3_5 v3_6 v3_7 v3_8 v3_9 v3_10 v3_11 v3_12 v3_13 v3_14 v3_15 v3_16 v3_17 v3_18 v3_19 v3_20 v3_21 v3_22 v3_23 v3_24 v3_25 v3_26 v3_27 v3_28 v3_29 v3_30 v3_31 v3_32 v3_33 v3_34 v3_35 v3_36 l (t:Int) (nmD ints) (nmD arrs) (e:Int) (g:Int) tag = some ((d,()),FT l t' (nmD ints) (nmD arrs) e' g' m):=by
   obtain ⟨d1,t1,x1,x2,xk,xx⟩:=eq195 hT h194 h195 hi ha hl hs 1 (by omega) ht e g m
   obtain ⟨xp,xq⟩:=xk.dec
   refine ⟨stD (8,tag,[],[],[exD xp],[],[]),t1,e,g,0 + 0 + 1,by omega,x2,.mk lp a g g g 0 0 _ 8 tag [] [] [exD xp] [] [] rfl htag (fun x hx=>by cases List.mem_singleton.1 hx; exact Ok_exD xk xq) (.nil _ _) (.nil _ _) (.inr (.inr (.inr (.inr (.inr (.inr (.inr (.inr (.inl ⟨rfl,rfl,rfl,rfl,rfl,rfl⟩))))))))),by omega,?_⟩
   unfold F152_3
   repeat first
    | refine S.cpos (beq_iff_eq.2 (by omega)) ?_
    | refine S.cneg (beq_eq_false_iff_ne.2 (by omega)) ?_
    | refine S.optP (asSl_sl _ _ _) ?_
    | (refine S.optP xx ?_; dsimp only)
    | refine S.optP xq ?_
    | refine S.optP (asStr_str _) ?_
    | refine S.cpos (dtrue rfl) ?_
    | refine S.cpos (S.eqA_refl _) ?_
    | refine S.cpos (beq_self_eq_true _) ?_
   try rfl
theorem st_while {ints arrs:List Nm} (hi:ints ≠ []) (ha:arrs ≠ []) {l:List D} (hl:Bytes l) (hs:l.length ≤ 9223372036854775807) {deep:Nat} (m lp:Bool) (hd:deep ≤ 100) (ih:0 < deep → StmtsOk B ints arrs l (deep - 1)) {b k:Nat} (hb:b < 256) (hk:(k = 7 ∨ k = 8) ∧ 0 < deep) {t:Nat} (ht:t ≤ l.length) {e g:Nat} (hge:g + e ≤ 999) {tag:Int} {a:Nat} (htag:(tag = 0 ∧ g = a) ∨ (m = true ∧ tag = (a:Int) + 1 ∧ g = a + 1))
  (l0:List D) (t0:Int) (n0 r0:D) (e0 g0:Int) (m0:Bool) (v3_2:Int) (v3_4:Bool) (v3_5:AV) (v3_6:AV) (v3_7:Bool) (v3_8:AV) (v3_9:AV) (v3_10:AV) (v3_11:AV) (v3_12:AV) (v3_13:Bool) (v3_14:AV) (v3_15:AV) (v3_16:AV) (v3_17:AV) (v3_18:AV) (v3_19:AV) (v3_20:AV) (v3_21:AV) (v3_22:AV) (v3_23:AV) (v3_24:AV) (v3_25:AV) (v3_26:AV) (v3_27:AV) (v3_28:Bool) (v3_29:Bool) (v3_30:AV) (v3_31:AV) (v3_32:AV) (v3_33:AV) (v3_34:AV) (v3_35:AV) (v3_36:Bool) :
  ∃ (d:D) (t' e' g' n : Nat),t ≤ t' ∧ t' ≤ l.length ∧ OkS ints arrs m lp a g' n d ∧ e' + n = e + 1 ∧ F152_3 (S.sem B) 0 (deep:Int) lp l0 t0 n0 r0 e0 g0 m0 (b:Int) (k:Int) v3_2 m v3_4 v3_5 v3_6 v3_7 v3_8 v3_9 v3_10 v3_11 v3_12 v3_13 v3_14 v3_15 v3_16 v3_17 v3_18 v3_19 v3_20 v3_21 v3_22 v3_23 v3_24 v3_25 v3_26 v3_27 v3_28 v3_29 v3_30 v3_31 v3_32 v3_33 v3_34 v3_35 v3_36 l (t:Int) (nmD ints) (nmD arrs) (e:Int) (g:Int) tag = some ((d,()),FT l t' (nmD ints) (nmD arrs) e' g' m):=by
   have hd0:=hk.2
   have hk:=hk.1
   obtain ⟨d1,t1,x1,x2,xk,xx⟩:=eq195 hT h194 h195 hi ha hl hs 2 (by omega) ht e g m
   obtain ⟨xp,xq⟩:=xk.dec
   have wp : IntKind.wrap .i64 ((deep:Int) - 1) = ((deep - 1 : Nat) : Int):=wrap_pred (by omega) (by omega)
   obtain ⟨ds,t2,e2,g2,n2,y1,y2,y3,y4,y5⟩:=ih hd0 x2 (e:=e) (g:=g) m true hge (most:=3) (by omega)
   refine ⟨stD (5,tag,[],[],[exD xp],ds,[]),t2,e2,g2,n2 + 0 + 1,by omega,y2,.mk lp a g g2 g2 n2 0 _ 5 tag [] [] [exD xp] ds [] rfl htag (fun x hx=>by cases List.mem_singleton.1 hx; exact Ok_exD xk xq) (by rw [show (lp || ((5:Int) == 5)) = true from by cases lp <;> rfl]; exact y3) (.nil _ _) (.inr (.inr (.inr (.inr (.inr (.inl ⟨rfl,rfl,rfl,rfl,rfl⟩)))))),by omega,?_⟩
   unfold F152_3
   rw [wp]
   rcases hk with hk | hk <;> (
    repeat first
     | refine S.cpos (beq_iff_eq.2 (by omega)) ?_
     | refine S.cneg (beq_eq_false_iff_ne.2 (by omega)) ?_
     | refine S.optP (asSl_sl _ _ _) ?_
     | (refine S.optP xx ?_; dsimp only)
     | refine S.optP xq ?_
     | (refine S.optP y5 ?_; dsimp only)
     | refine S.optP (asStr_str _) ?_
     | refine S.cpos (dtrue rfl) ?_
     | refine S.cpos (S.eqA_refl _) ?_
     | refine S.cpos (beq_self_eq_true _) ?_
    try rfl)
theorem st_if {ints arrs:List Nm} (hi:ints ≠ []) (ha:arrs ≠ []) {l:List D} (hl:Bytes l) (hs:l.length ≤ 9223372036854775807) {deep:Nat} (m lp:Bool) (hd:deep ≤ 100) (ih:0 < deep → StmtsOk B ints arrs l (deep - 1)) {b k:Nat} (hb:b < 256) (hk:(k = 5 ∨ k = 6) ∧ 0 < deep) {t:Nat} (ht:t ≤ l.length) {e g:Nat} (hge:g + e ≤ 999) {tag:Int} {a:Nat} (htag:(tag = 0 ∧ g = a) ∨ (m = true ∧ tag = (a:Int) + 1 ∧ g = a + 1))
  (l0:List D) (t0:Int) (n0 r0:D) (e0 g0:Int) (m0:Bool) (v3_2:Int) (v3_4:Bool) (v3_5:AV) (v3_6:AV) (v3_7:Bool) (v3_8:AV) (v3_9:AV) (v3_10:AV) (v3_11:AV) (v3_12:AV) (v3_13:Bool) (v3_14:AV) (v3_15:AV) (v3_16:AV) (v3_17:AV) (v3_18:AV) (v3_19:AV) (v3_20:AV) (v3_21:AV) (v3_22:AV) (v3_23:AV) (v3_24:AV) (v3_25:AV) (v3_26:AV) (v3_27:AV) (v3_28:Bool) (v3_29:Bool) (v3_30:AV) (v3_31:AV) (v3_32:AV) (v3_33:AV) (v3_34:AV) (v3_35:AV) (v3_36:Bool) :
  ∃ (d:D) (t' e' g' n : Nat),t ≤ t' ∧ t' ≤ l.length ∧ OkS ints arrs m lp a g' n d ∧ e' + n = e + 1 ∧ F152_3 (S.sem B) 0 (deep:Int) lp l0 t0 n0 r0 e0 g0 m0 (b:Int) (k:Int) v3_2 m v3_4 v3_5 v3_6 v3_7 v3_8 v3_9 v3_10 v3_11 v3_12 v3_13 v3_14 v3_15 v3_16 v3_17 v3_18 v3_19 v3_20 v3_21 v3_22 v3_23 v3_24 v3_25 v3_26 v3_27 v3_28 v3_29 v3_30 v3_31 v3_32 v3_33 v3_34 v3_35 v3_36 l (t:Int) (nmD ints) (nmD arrs) (e:Int) (g:Int) tag = some ((d,()),FT l t' (nmD ints) (nmD arrs) e' g' m):=by
   have hd0:=hk.2
   have hk:=hk.1
   obtain ⟨d1,t1,x1,x2,xk,xx⟩:=eq195 hT h194 h195 hi ha hl hs 2 (by omega) ht e g m
   obtain ⟨xp,xq⟩:=xk.dec
   have wp : IntKind.wrap .i64 ((deep:Int) - 1) = ((deep - 1 : Nat) : Int):=wrap_pred (by omega) (by omega)
   have e45 : (lp || ((4:Int) == 5)) = lp:=by cases lp <;> rfl
   obtain ⟨ds,t2,e2,g2,n2,y1,y2,y3,y4,y5⟩:=ih hd0 x2 (e:=e) (g:=g) m lp hge (most:=3) (by omega)
   by_cases hc : b % 32 < 16
   ·
    have htg:=y3.tags
    obtain ⟨du,t3,e3,g3,n3,z1,z2,z3,z4,z5⟩:=ih hd0 y2 (e:=e2) (g:=g2) m lp (by omega) (most:=2) (by omega)
    have hcc : decide (Int.tmod (b:Int) (32:Int) < (16:Int)) = true:=dtrue (by rw [tmod32]; omega)
    refine ⟨stD (4,tag,[],[],[exD xp],ds,du),t3,e3,g3,n2 + n3 + 1,by omega,z2,.mk lp a g g2 g3 n2 n3 _ 4 tag [] [] [exD xp] ds du rfl htag (fun x hx=>by cases List.mem_singleton.1 hx; exact Ok_exD xk xq) (by rw [e45]; exact y3) z3 (.inr (.inr (.inr (.inr (.inl ⟨rfl,rfl,rfl,rfl⟩))))),by omega,?_⟩
    unfold F152_3
    rw [wp]
    rcases hk with hk | hk <;> (
     repeat first
      | refine S.cpos (beq_iff_eq.2 (by omega)) ?_
      | refine S.cneg (beq_eq_false_iff_ne.2 (by omega)) ?_
      | refine S.optP (asSl_sl _ _ _) ?_
      | (refine S.optP xx ?_; dsimp only)
      | refine S.optP xq ?_
      | (refine S.optP y5 ?_; dsimp only)
      | refine S.cpos hcc ?_
      | (refine S.optP z5 ?_; dsimp only)
      | refine S.optP (asStr_str _) ?_
      | refine S.cpos (dtrue rfl) ?_
      | refine S.cpos (S.eqA_refl _) ?_
      | refine S.cpos (beq_self_eq_true _) ?_
     try rfl)
   ·
    have hcc : decide (Int.tmod (b:Int) (32:Int) < (16:Int)) = false:=dfalse (by rw [tmod32]; omega)
    refine ⟨stD (4,tag,[],[],[exD xp],ds,[]),t2,e2,g2,n2 + 0 + 1,by omega,y2,.mk lp a g g2 g2 n2 0 _ 4 tag [] [] [exD xp] ds [] rfl htag (fun x hx=>by cases List.mem_singleton.1 hx; exact Ok_exD xk xq) (by rw [e45]; exact y3) (.nil _ _) (.inr (.inr (.inr (.inr (.inl ⟨rfl,rfl,rfl,rfl⟩))))),by omega,?_⟩
    unfold F152_3
    rw [wp]
    rcases hk with hk | hk <;> (
     repeat first
      | refine S.cpos (beq_iff_eq.2 (by omega)) ?_
      | refine S.cneg (beq_eq_false_iff_ne.2 (by omega)) ?_
      | refine S.optP (asSl_sl _ _ _) ?_
      | (refine S.optP xx ?_; dsimp only)
      | refine S.optP xq ?_
      | (refine S.optP y5 ?_; dsimp only)
      | refine S.cneg hcc ?_
      | refine S.optP (asStr_str _) ?_
      | refine S.cpos (dtrue rfl) ?_
      | refine S.cpos (S.eqA_refl _) ?_
      | refine S.cpos (beq_self_eq_true _) ?_
     try rfl)
theorem st_call {ints arrs:List Nm} (hi:ints ≠ []) (ha:arrs ≠ []) {l:List D} (hl:Bytes l) (hs:l.length ≤ 9223372036854775807) {deep:Nat} (m lp:Bool) (hd:deep ≤ 100) (ih:0 < deep → StmtsOk B ints arrs l (deep - 1)) {b k:Nat} (hb:b < 256) (hk:k = 9) {t:Nat} (ht:t ≤ l.length) {e g:Nat} (hge:g + e ≤ 999) {tag:Int} {a:Nat} (htag:(tag = 0 ∧ g = a) ∨ (m = true ∧ tag = (a:Int) + 1 ∧ g = a + 1))
  (l0:List D) (t0:Int) (n0 r0:D) (e0 g0:Int) (m0:Bool) (v3_2:Int) (v3_4:Bool) (v3_5:AV) (v3_6:AV) (v3_7:Bool) (v3_8:AV) (v3_9:AV) (v3_10:AV) (v3_11:AV) (v3_12:AV) (v3_13:Bool) (v3_14:AV) (v3_15:AV) (v3_16:AV) (v3_17:AV) (v3_18:AV) (v3_19:AV) (v3_20:AV) (v3_21:AV) (v3_22:AV) (v3_23:AV) (v3_24:AV) (v3_25:AV) (v3_26:AV) (v3_27:AV) (v3_28:Bool) (v3_29:Bool) (v3_30:AV) (v3_31:AV) (v3_32:AV) (v3_33:AV) (v3_34:AV) (v3_35:AV) (v3_36:Bool) :
  ∃ (d:D) (t' e' g' n : Nat),t ≤ t' ∧ t' ≤ l.length ∧ OkS ints arrs m lp a g' n d ∧ e' + n = e + 1 ∧ F152_3 (S.sem B) 0 (deep:Int) lp l0 t0 n0 r0 e0 g0 m0 (b:Int) (k:Int) v3_2 m v3_4 v3_5 v3_6 v3_7 v3_8 v3_9 v3_10 v3_11 v3_12 v3_13 v3_14 v3_15 v3_16 v3_17 v3_18 v3_19 v3_20 v3_21 v3_22 v3_23 v3_24 v3_25 v3_26 v3_27 v3_28 v3_29 v3_30 v3_31 v3_32 v3_33 v3_34 v3_35 v3_36 l (t:Int) (nmD ints) (nmD arrs) (e:Int) (g:Int) tag = some ((d,()),FT l t' (nmD ints) (nmD arrs) e' g' m):=by
   obtain ⟨nm,hnm,p1,p2,p3⟩:=pick_nm hi hb
   obtain ⟨d1,t1,x1,x2,xk,xx⟩:=eq195 hT h194 h195 hi ha hl hs 1 (by omega) ht e g m
   obtain ⟨xp,xq⟩:=xk.dec
   by_cases hc : b % 32 < 16
   ·
    have hcc : decide (Int.tmod (b:Int) (32:Int) < (16:Int)) = true:=dtrue (by rw [tmod32]; omega)
    obtain ⟨d2,t2,y1,y2,yk,yx⟩:=eq195 hT h194 h195 hi ha hl hs 1 (by omega) x2 e g m
    obtain ⟨yp,yq⟩:=yk.dec
    refine ⟨stD (3,tag,nm,[104],[exD xp,exD yp],[],[]),t2,e,g,0 + 0 + 1,by omega,y2,.mk lp a g g g 0 0 _ 3 tag nm [104] [exD xp,exD yp] [] [] rfl htag (fun x hx=>by
     rcases List.mem_cons.1 hx with rfl | hx
     ·
      exact Ok_exD xk xq
     ·
      cases List.mem_singleton.1 hx; exact Ok_exD yk yq) (.nil _ _) (.nil _ _) (.inr (.inr (.inr (.inl ⟨rfl,hnm,.inr ⟨rfl,rfl⟩,rfl,rfl⟩)))),by omega,?_⟩
    unfold F152_3
    repeat first
     | refine S.cpos (beq_iff_eq.2 (by omega)) ?_
     | refine S.cneg (beq_eq_false_iff_ne.2 (by omega)) ?_
     | refine S.optP (asSl_sl _ _ _) ?_
     | refine S.cpos p3 ?_
     | refine S.cpos p2 ?_
     | refine S.optP p1 ?_
     | (refine S.optP xx ?_; dsimp only)
     | refine S.optP xq ?_
     | refine S.cpos hcc ?_
     | (refine S.optP yx ?_; dsimp only)
     | refine S.optP yq ?_
     | refine S.cpos (dtrue (by decide)) ?_
     | refine S.optP (asStr_str _) ?_
     | refine S.cpos (dtrue rfl) ?_
     | refine S.cpos (S.eqA_refl _) ?_
     | refine S.cpos (beq_self_eq_true _) ?_
    try rfl
   ·
    have hcc : decide (Int.tmod (b:Int) (32:Int) < (16:Int)) = false:=dfalse (by rw [tmod32]; omega)
    refine ⟨stD (3,tag,nm,[103],[exD xp],[],[]),t1,e,g,0 + 0 + 1,by omega,x2,.mk lp a g g g 0 0 _ 3 tag nm [103] [exD xp] [] [] rfl htag (fun x hx=>by cases List.mem_singleton.1 hx; exact Ok_exD xk xq) (.nil _ _) (.nil _ _) (.inr (.inr (.inr (.inl ⟨rfl,hnm,.inl ⟨rfl,rfl⟩,rfl,rfl⟩)))),by omega,?_⟩
    unfold F152_3
    repeat first
     | refine S.cpos (beq_iff_eq.2 (by omega)) ?_
     | refine S.cneg (beq_eq_false_iff_ne.2 (by omega)) ?_
     | refine S.optP (asSl_sl _ _ _) ?_
     | refine S.cpos p3 ?_
     | refine S.cpos p2 ?_
     | refine S.optP p1 ?_
     | (refine S.optP xx ?_; dsimp only)
     | refine S.optP xq ?_
     | refine S.cneg hcc ?_
     | refine S.optP (asStr_str _) ?_
     | refine S.cpos (dtrue rfl) ?_
     | refine S.cpos (S.eqA_refl _) ?_
     | refine S.cpos (beq_self_eq_true _) ?_
    try rfl
end
end Go.Proofs.YtkinbnepkpoofaaGreatDoor
/- Statements of bytes,so deep. -/
namespace Go.Proofs.YtkinbnepkpoofaaGreatDoor
open Go Go.AM
def Res (ints arrs:List Nm) (m lp:Bool) (a:Nat) (l:List D) (t e:Nat) (X:Option (S.Hms.T [.any] × S.Hbs.T [.c [.sl 1,.int .i64,.any,.any,.int .i64,.int .i64,.bool]])) : Prop :=
 ∃ (d:D) (t' e' g' n : Nat),t ≤ t' ∧ t' ≤ l.length ∧ OkS ints arrs m lp a g' n d ∧ e' + n = e + 1 ∧ X = some ((d,()),FT l t' (nmD ints) (nmD arrs) e' g' m)
section
variable {ints arrs:List Nm} {m lp:Bool} {a:Nat} {l:List D} {t e:Nat}
theorem Res.pos {c:Bool} {A C} (h:c = true) (hA:Res ints arrs m lp a l t e A) : Res ints arrs m lp a l t e (cond c A C):=by subst h; exact hA
theorem Res.neg {c:Bool} {A C} (h:c = false) (hA:Res ints arrs m lp a l t e C) : Res ints arrs m lp a l t e (cond c A C):=by subst h; exact hA
theorem Res.opt {α:Type} {o:Option α} {x:α} {K} (h:o = some x) (hA:Res ints arrs m lp a l t e (K x)) : Res ints arrs m lp a l t e (S.optZ o K):=by subst h; exact hA
end
section
variable {B:S.BookM} (hT:B.T = T) (h194:Has B 194 fi194) (h195:Has B 195 fi195)
include hT h194 h195
theorem sw {ints arrs:List Nm} (hi:ints ≠ []) (ha:arrs ≠ []) {l:List D} (hl:Bytes l) (hs:l.length ≤ 9223372036854775807) {deep:Nat} (m lp:Bool) (hd:deep ≤ 100) (ih:0 < deep → StmtsOk B ints arrs l (deep - 1)) {b:Nat} (k:Nat) (hb:b < 256) (hk:k < 16) (hk5:deep = 0 → k < 5 ∨ 8 < k) (hk10:lp = false → k ≠ 10 ∧ k ≠ 11) {t:Nat} (ht:t ≤ l.length) {e g:Nat} (hge:g + e ≤ 999) {tag:Int} {a:Nat} (htag:(tag = 0 ∧ g = a) ∨ (m = true ∧ tag = (a:Int) + 1 ∧ g = a + 1))
  (l0:List D) (t0:Int) (n0 r0:D) (e0 g0:Int) (m0:Bool) (v3_2:Int) (v3_4:Bool) (v3_5:AV) (v3_6:AV) (v3_7:Bool) (v3_8:AV) (v3_9:AV) (v3_10:AV) (v3_11:AV) (v3_12:AV) (v3_13:Bool) (v3_14:AV) (v3_15:AV) (v3_16:AV) (v3_17:AV) (v3_18:AV) (v3_19:AV) (v3_20:AV) (v3_21:AV) (v3_22:AV) (v3_23:AV) (v3_24:AV) (v3_25:AV) (v3_26:AV) (v3_27:AV) (v3_28:Bool) (v3_29:Bool) (v3_30:AV) (v3_31:AV) (v3_32:AV) (v3_33:AV) (v3_34:AV) (v3_35:AV) (v3_36:Bool) :
  Res ints arrs m lp a l t e (F152_3 (S.sem B) 0 (deep:Int) lp l0 t0 n0 r0 e0 g0 m0 (b:Int) (k:Int) v3_2 m v3_4 v3_5 v3_6 v3_7 v3_8 v3_9 v3_10 v3_11 v3_12 v3_13 v3_14 v3_15 v3_16 v3_17 v3_18 v3_19 v3_20 v3_21 v3_22 v3_23 v3_24 v3_25 v3_26 v3_27 v3_28 v3_29 v3_30 v3_31 v3_32 v3_33 v3_34 v3_35 v3_36 l (t:Int) (nmD ints) (nmD arrs) (e:Int) (g:Int) tag):=by
 by_cases h : k = 0 ∨ k = 1 ∨ k = 14 ∨ k = 15
 ·
  exact st_assign hT h194 h195 hi ha hl hs m lp hd ih hb h ht hge htag l0 t0 n0 r0 e0 g0 m0 v3_2 v3_4 v3_5 v3_6 v3_7 v3_8 v3_9 v3_10 v3_11 v3_12 v3_13 v3_14 v3_15 v3_16 v3_17 v3_18 v3_19 v3_20 v3_21 v3_22 v3_23 v3_24 v3_25 v3_26 v3_27 v3_28 v3_29 v3_30 v3_31 v3_32 v3_33 v3_34 v3_35 v3_36
 by_cases h : k = 2 ∨ k = 3
 ·
  exact st_store hT h194 h195 hi ha hl hs m lp hd ih hb h ht hge htag l0 t0 n0 r0 e0 g0 m0 v3_2 v3_4 v3_5 v3_6 v3_7 v3_8 v3_9 v3_10 v3_11 v3_12 v3_13 v3_14 v3_15 v3_16 v3_17 v3_18 v3_19 v3_20 v3_21 v3_22 v3_23 v3_24 v3_25 v3_26 v3_27 v3_28 v3_29 v3_30 v3_31 v3_32 v3_33 v3_34 v3_35 v3_36
 by_cases h : k = 4
 ·
  exact st_read hT h194 h195 hi ha hl hs m lp hd ih hb h ht hge htag l0 t0 n0 r0 e0 g0 m0 v3_2 v3_4 v3_5 v3_6 v3_7 v3_8 v3_9 v3_10 v3_11 v3_12 v3_13 v3_14 v3_15 v3_16 v3_17 v3_18 v3_19 v3_20 v3_21 v3_22 v3_23 v3_24 v3_25 v3_26 v3_27 v3_28 v3_29 v3_30 v3_31 v3_32 v3_33 v3_34 v3_35 v3_36
 by_cases h : k = 5 ∨ k = 6
 ·
  exact st_if hT h194 h195 hi ha hl hs m lp hd ih hb ⟨h,Nat.pos_of_ne_zero (fun h0=>by have:=hk5 h0; omega)⟩ ht hge htag l0 t0 n0 r0 e0 g0 m0 v3_2 v3_4 v3_5 v3_6 v3_7 v3_8 v3_9 v3_10 v3_11 v3_12 v3_13 v3_14 v3_15 v3_16 v3_17 v3_18 v3_19 v3_20 v3_21 v3_22 v3_23 v3_24 v3_25 v3_26 v3_27 v3_28 v3_29 v3_30 v3_31 v3_32 v3_33 v3_34 v3_35 v3_36
 by_cases h : k = 7 ∨ k = 8
 ·
  exact st_while hT h194 h195 hi ha hl hs m lp hd ih hb ⟨h,Nat.pos_of_ne_zero (fun h0=>by have:=hk5 h0; omega)⟩ ht hge htag l0 t0 n0 r0 e0 g0 m0 v3_2 v3_4 v3_5 v3_6 v3_7 v3_8 v3_9 v3_10 v3_11 v3_12 v3_13 v3_14 v3_15 v3_16 v3_17 v3_18 v3_19 v3_20 v3_21 v3_22 v3_23 v3_24 v3_25 v3_26 v3_27 v3_28 v3_29 v3_30 v3_31 v3_32 v3_33 v3_34 v3_35 v3_36
 by_cases h : k = 9
 ·
  exact st_call hT h194 h195 hi ha hl hs m lp hd ih hb h ht hge htag l0 t0 n0 r0 e0 g0 m0 v3_2 v3_4 v3_5 v3_6 v3_7 v3_8 v3_9 v3_10 v3_11 v3_12 v3_13 v3_14 v3_15 v3_16 v3_17 v3_18 v3_19 v3_20 v3_21 v3_22 v3_23 v3_24 v3_25 v3_26 v3_27 v3_28 v3_29 v3_30 v3_31 v3_32 v3_33 v3_34 v3_35 v3_36
 by_cases h : k = 10
 ·
  exact st_break hT h194 h195 hi ha hl hs m lp hd ih hb ⟨h,by cases lp with | true=>rfl | false=>exact absurd h (hk10 rfl).1⟩ ht hge htag l0 t0 n0 r0 e0 g0 m0 v3_2 v3_4 v3_5 v3_6 v3_7 v3_8 v3_9 v3_10 v3_11 v3_12 v3_13 v3_14 v3_15 v3_16 v3_17 v3_18 v3_19 v3_20 v3_21 v3_22 v3_23 v3_24 v3_25 v3_26 v3_27 v3_28 v3_29 v3_30 v3_31 v3_32 v3_33 v3_34 v3_35 v3_36
 by_cases h : k = 11
 ·
  exact st_cont hT h194 h195 hi ha hl hs m lp hd ih hb ⟨h,by cases lp with | true=>rfl | false=>exact absurd h (hk10 rfl).2⟩ ht hge htag l0 t0 n0 r0 e0 g0 m0 v3_2 v3_4 v3_5 v3_6 v3_7 v3_8 v3_9 v3_10 v3_11 v3_12 v3_13 v3_14 v3_15 v3_16 v3_17 v3_18 v3_19 v3_20 v3_21 v3_22 v3_23 v3_24 v3_25 v3_26 v3_27 v3_28 v3_29 v3_30 v3_31 v3_32 v3_33 v3_34 v3_35 v3_36
 by_cases h : k = 12
 ·
  exact st_assert hT h194 h195 hi ha hl hs m lp hd ih hb h ht hge htag l0 t0 n0 r0 e0 g0 m0 v3_2 v3_4 v3_5 v3_6 v3_7 v3_8 v3_9 v3_10 v3_11 v3_12 v3_13 v3_14 v3_15 v3_16 v3_17 v3_18 v3_19 v3_20 v3_21 v3_22 v3_23 v3_24 v3_25 v3_26 v3_27 v3_28 v3_29 v3_30 v3_31 v3_32 v3_33 v3_34 v3_35 v3_36
 by_cases h : k = 13
 ·
  exact st_return hT h194 h195 hi ha hl hs m lp hd ih hb h ht hge htag l0 t0 n0 r0 e0 g0 m0 v3_2 v3_4 v3_5 v3_6 v3_7 v3_8 v3_9 v3_10 v3_11 v3_12 v3_13 v3_14 v3_15 v3_16 v3_17 v3_18 v3_19 v3_20 v3_21 v3_22 v3_23 v3_24 v3_25 v3_26 v3_27 v3_28 v3_29 v3_30 v3_31 v3_32 v3_33 v3_34 v3_35 v3_36
 omega
theorem sg2 {ints arrs:List Nm} (hi:ints ≠ []) (ha:arrs ≠ []) {l:List D} (hl:Bytes l) (hs:l.length ≤ 9223372036854775807) {deep:Nat} (m lp:Bool) (hd:deep ≤ 100) (ih:0 < deep → StmtsOk B ints arrs l (deep - 1)) {b:Nat} (k:Nat) (hb:b < 256) (hk:k < 16) (hk5:deep = 0 → k < 5 ∨ 8 < k) {t:Nat} (ht:t ≤ l.length) {e g:Nat} (hge:g + e ≤ 999) {tag:Int} {a:Nat} (htag:(tag = 0 ∧ g = a) ∨ (m = true ∧ tag = (a:Int) + 1 ∧ g = a + 1))
  (l0:List D) (t0:Int) (n0 r0:D) (e0 g0:Int) (m0:Bool) (v2_2:Int) (v2_4:Bool) (v2_5:AV) (v2_6:AV) (v2_7:Bool) (v2_8:AV) (v2_9:AV) (v2_10:AV) (v2_11:AV) (v2_12:AV) (v2_13:Bool) (v2_14:AV) (v2_15:AV) (v2_16:AV) (v2_17:AV) (v2_18:AV) (v2_19:AV) (v2_20:AV) (v2_21:AV) (v2_22:AV) (v2_23:AV) (v2_24:AV) (v2_25:AV) (v2_26:AV) (v2_27:AV) (v2_28:Bool) :
  Res ints arrs m lp a l t e (F152_2 (S.sem B) 0 (deep:Int) lp l0 t0 n0 r0 e0 g0 m0 (b:Int) (k:Int) v2_2 m v2_4 v2_5 v2_6 v2_7 v2_8 v2_9 v2_10 v2_11 v2_12 v2_13 v2_14 v2_15 v2_16 v2_17 v2_18 v2_19 v2_20 v2_21 v2_22 v2_23 v2_24 v2_25 v2_26 v2_27 v2_28 l (t:Int) (nmD ints) (nmD arrs) (e:Int) (g:Int) tag):=by
 unfold F152_2 G152_2
 by_cases hlp : lp = true
 ·
  refine Res.neg (by rw [hlp]; rfl) ?_
  exact sw hT h194 h195 hi ha hl hs m lp hd ih k hb hk hk5 (fun h=>by rw [hlp] at h; cases h) ht hge htag _ _ _ _ _ _ _ _ _ _ _ _ _ _ _ _ _ _ _ _ _ _ _ _ _ _ _ _ _ _ _ _ _ _ _ _ _ _ _ _ _
 ·
  have hlp : lp = false:=by cases lp <;> simp_all
  refine Res.pos (by rw [hlp]; rfl) ?_
  by_cases h10 : k = 10
  ·
   refine Res.pos (beq_iff_eq.2 (by omega)) ?_
   exact sw hT h194 h195 hi ha hl hs m lp hd ih 1 hb (by omega) (fun _=>by omega) (fun _=>by omega) ht hge htag _ _ _ _ _ _ _ _ _ _ _ _ _ _ _ _ _ _ _ _ _ _ _ _ _ _ _ _ _ _ _ _ _ _ _ _ _ _ _ _ _
  ·
   refine Res.neg (beq_eq_false_iff_ne.2 (by omega)) ?_
   by_cases h11 : k = 11
   ·
    refine Res.pos (beq_iff_eq.2 (by omega)) ?_
    exact sw hT h194 h195 hi ha hl hs m lp hd ih 1 hb (by omega) (fun _=>by omega) (fun _=>by omega) ht hge htag _ _ _ _ _ _ _ _ _ _ _ _ _ _ _ _ _ _ _ _ _ _ _ _ _ _ _ _ _ _ _ _ _ _ _ _ _ _ _ _ _
   ·
    refine Res.neg (beq_eq_false_iff_ne.2 (by omega)) ?_
    exact sw hT h194 h195 hi ha hl hs m lp hd ih k hb hk hk5 (fun _=>⟨h10,h11⟩) ht hge htag _ _ _ _ _ _ _ _ _ _ _ _ _ _ _ _ _ _ _ _ _ _ _ _ _ _ _ _ _ _ _ _ _ _ _ _ _ _ _ _ _
theorem sg1 {ints arrs:List Nm} (hi:ints ≠ []) (ha:arrs ≠ []) {l:List D} (hl:Bytes l) (hs:l.length ≤ 9223372036854775807) {deep:Nat} (m lp:Bool) (hd:deep ≤ 100) (ih:0 < deep → StmtsOk B ints arrs l (deep - 1)) {b:Nat} (k:Nat) (hb:b < 256) (hk:k < 16) {t:Nat} (ht:t ≤ l.length) {e g:Nat} (hge:g + e ≤ 999) {tag:Int} {a:Nat} (htag:(tag = 0 ∧ g = a) ∨ (m = true ∧ tag = (a:Int) + 1 ∧ g = a + 1))
  (l0:List D) (t0:Int) (n0 r0:D) (e0 g0:Int) (m0:Bool) (v1_3:Bool) (v1_4:AV) (v1_5:AV) (v1_6:Bool) (v1_7:AV) (v1_8:AV) (v1_9:AV) (v1_10:AV) (v1_11:AV) :
  Res ints arrs m lp a l t e (F152_1 (S.sem B) 0 (deep:Int) lp l0 t0 n0 r0 e0 g0 m0 (b:Int) (k:Int) m v1_3 v1_4 v1_5 v1_6 v1_7 v1_8 v1_9 v1_10 v1_11 l (t:Int) (nmD ints) (nmD arrs) (e:Int) (g:Int) tag):=by
 unfold F152_1 G152_1
 by_cases h0 : deep = 0
 ·
  refine Res.pos (dtrue (by omega)) ?_
  by_cases h5 : k = 5
  ·
   refine Res.pos (beq_iff_eq.2 (by omega)) ?_
   exact sg2 hT h194 h195 hi ha hl hs m lp hd ih 0 hb (by omega) (fun _=>by omega) ht hge htag _ _ _ _ _ _ _ _ _ _ _ _ _ _ _ _ _ _ _ _ _ _ _ _ _ _ _ _ _ _ _ _ _
  ·
   refine Res.neg (beq_eq_false_iff_ne.2 (by omega)) ?_
   by_cases h6 : k = 6
   ·
    refine Res.pos (beq_iff_eq.2 (by omega)) ?_
    exact sg2 hT h194 h195 hi ha hl hs m lp hd ih 0 hb (by omega) (fun _=>by omega) ht hge htag _ _ _ _ _ _ _ _ _ _ _ _ _ _ _ _ _ _ _ _ _ _ _ _ _ _ _ _ _ _ _ _ _
   ·
    refine Res.neg (beq_eq_false_iff_ne.2 (by omega)) ?_
    by_cases h7 : k = 7
    ·
     refine Res.pos (beq_iff_eq.2 (by omega)) ?_
     exact sg2 hT h194 h195 hi ha hl hs m lp hd ih 0 hb (by omega) (fun _=>by omega) ht hge htag _ _ _ _ _ _ _ _ _ _ _ _ _ _ _ _ _ _ _ _ _ _ _ _ _ _ _ _ _ _ _ _ _
    ·
     refine Res.neg (beq_eq_false_iff_ne.2 (by omega)) ?_
     by_cases h8 : k = 8
     ·
      refine Res.pos (beq_iff_eq.2 (by omega)) ?_
      exact sg2 hT h194 h195 hi ha hl hs m lp hd ih 0 hb (by omega) (fun _=>by omega) ht hge htag _ _ _ _ _ _ _ _ _ _ _ _ _ _ _ _ _ _ _ _ _ _ _ _ _ _ _ _ _ _ _ _ _
     ·
      refine Res.neg (beq_eq_false_iff_ne.2 (by omega)) ?_
      exact sg2 hT h194 h195 hi ha hl hs m lp hd ih k hb hk (fun _=>by omega) ht hge htag _ _ _ _ _ _ _ _ _ _ _ _ _ _ _ _ _ _ _ _ _ _ _ _ _ _ _ _ _ _ _ _ _
 ·
  refine Res.neg (dfalse (by omega)) ?_
  exact sg2 hT h194 h195 hi ha hl hs m lp hd ih k hb hk (fun h=>absurd h h0) ht hge htag _ _ _ _ _ _ _ _ _ _ _ _ _ _ _ _ _ _ _ _ _ _ _ _ _ _ _ _ _ _ _ _ _
theorem eq152 (h152:Has B 152 fi152) {ints arrs:List Nm} (hi:ints ≠ []) (ha:arrs ≠ []) {l:List D} (hl:Bytes l) (hs:l.length ≤ 9223372036854775807) {deep:Nat} (hd:deep ≤ 100) (ih:0 < deep → StmtsOk B ints arrs l (deep - 1)) : StmtOk B ints arrs l deep:=by
 intro t ht e g m lp hge
 obtain ⟨b,t1,hb,h1,h2,h3⟩:=eq194 hT h194 hl hs ht (nmD ints) (nmD arrs) e g m
 have key : Res ints arrs m lp g l t1 e (F152 (S.sem B) 0 (deep:Int) lp l (t:Int) (nmD ints) (nmD arrs) (e:Int) (g:Int) m):=by
  unfold F152 F152_0 G152_0
  refine Res.opt h3 ?_
  dsimp only
  have hk : b % 16 < 16:=Nat.mod_lt _ (by omega)
  cases m with
  | false =>
   refine Res.neg rfl ?_
   exact sg1 hT h194 h195 hi ha hl hs false lp hd ih (b % 16) hb hk h2 (by omega) (.inl ⟨rfl,rfl⟩) _ _ _ _ _ _ _ _ _ _ _ _ _ _ _ _
  | true =>
   refine Res.pos rfl ?_
   by_cases h128 : 128 ≤ b
   ·
    have w : IntKind.wrap .i64 ((g:Int) + (1:Int)) = ((g + 1 : Nat) : Int):=wrap_succ (n:=1000) (by omega) (by omega)
    refine Res.pos (dtrue (by omega)) ?_
    rw [w]
    exact sg1 hT h194 h195 hi ha hl hs true lp hd ih (b % 16) hb hk h2 (by omega) (.inr ⟨rfl,by omega,rfl⟩) _ _ _ _ _ _ _ _ _ _ _ _ _ _ _ _
   ·
    refine Res.neg (dfalse (by omega)) ?_
    exact sg1 hT h194 h195 hi ha hl hs true lp hd ih (b % 16) hb hk h2 (by omega) (.inl ⟨rfl,rfl⟩) _ _ _ _ _ _ _ _ _ _ _ _ _ _ _ _
 obtain ⟨d, t', e', g', n, a1, a2, a3, a4, a5⟩ := key
 exact ⟨d, t', e', g', n, by omega, a2, a3, a4, lentB hT h152 (lf := 0) ((F152_eq _ _ _ _ _ _ _ _ _ _ _).trans a5)⟩
theorem stmts_all (h152:Has B 152 fi152) (h96:Has B 96 fi96) {ints arrs:List Nm} (hi:ints ≠ []) (ha:arrs ≠ []) {l:List D} (hl:Bytes l) (hs:l.length ≤ 9223372036854775807) : ∀ (deep:Nat),deep ≤ 100 → StmtsOk B ints arrs l deep:=by
 intro deep
 induction deep with
 | zero=>intro hd; exact eq96 hT h96 hs hd (eq152 hT h194 h195 h152 hi ha hl hs hd (fun h=>absurd h (by omega)))
 | succ q ih=>intro hd; exact eq96 hT h96 hs hd (eq152 hT h194 h195 h152 hi ha hl hs hd (fun _=>ih (by omega)))
end
end Go.Proofs.YtkinbnepkpoofaaGreatDoor
/- Programs that are made of bytes. -/
namespace Go.Proofs.YtkinbnepkpoofaaGreatDoor
open Go Go.AM
abbrev nP : Nm:=[112]
abbrev nR : Nm:=[114]
abbrev nQ : Nm:=[113]
abbrev nZs : Nm:=[122,115]
abbrev nA : Nm:=[97]
abbrev nB : Nm:=[98]
abbrev nC : Nm:=[99]
abbrev nD : Nm:=[100]
abbrev nXs : Nm:=[120,115]
abbrev nYs : Nm:=[121,115]
abbrev nMain : Nm:=[109,97,105,110]
abbrev pG : List D:=[.str nP]
abbrev pH : List D:=[.str nP,.str nQ]
abbrev vG : List D:=[.agg [.str nR,.int .i64 0],.agg [.str nZs,.int .i64 2]]
abbrev vH : List D:=[.agg [.str nZs,.int .i64 1]]
abbrev vM : List D:=[.agg [.str nA,.int .i64 0],.agg [.str nB,.int .i64 0],.agg [.str nC,.int .i64 0],.agg [.str nD,.int .i64 0],.agg [.str nXs,.int .i64 3],.agg [.str nYs,.int .i64 5]]
abbrev gD (x:List D) : D:=.agg [.str [103],.sl true 1 pG,.sl true 2 vG,.sl false 7 x]
abbrev hD (x:List D) : D:=.agg [.str [104],.sl true 1 pH,.sl true 2 vH,.sl false 7 x]
abbrev mD (x:List D) : D:=.agg [.str nMain,.sl true 0 [],.sl true 2 vM,.sl false 7 x]
abbrev prD (x y z:List D) : List D:=[gD x,hD y,mD z]
abbrev iG : List Nm:=[nP,nR]
abbrev iH : List Nm:=[nP,nQ]
abbrev iM : List Nm:=[nA,nB,nC,nD]
abbrev aG : List Nm:=[nZs]
abbrev aM : List Nm:=[nXs,nYs]
structure Made (x y z:List D) (c:Nat) : Prop where
 x : ∃ n,n ≤ 4 ∧ OkL iG aG false false 0 0 n x
 y : ∃ n,n ≤ 3 ∧ OkL iH aG false false 0 0 n y
 z : ∃ n,n ≤ 24 ∧ OkL iM aM true false 0 c n z
mutual
theorem OkS.nomain {ints arrs:List Nm} {lp:Bool} {a b n:Nat} {d:D} : OkS ints arrs false lp a b n d → b = a
 | .mk _ _ a1 a2 _ _ _ _ _ _ _ _ _ _ _ _ ht _ hb hl _=>by
  have h1:=hb.nomain
  have h2:=hl.nomain
  rcases ht with ⟨_,h⟩ | ⟨h,_⟩
  ·
   omega
  ·
   cases h
theorem OkL.nomain {ints arrs:List Nm} {lp:Bool} {a b n:Nat} {ds:List D} : OkL ints arrs false lp a b n ds → b = a
 | .nil _ _=>rfl
 | .cons _ _ _ _ _ _ _ _ h hs=>by
  have h1:=h.nomain
  have h2:=hs.nomain
  omega
end
structure FdB (B:S.BookM) : Prop where
 T : B.T = T
 h194 : Has B 194 fi194
 h195 : Has B 195 fi195
 h152 : Has B 152 fi152
 h96 : Has B 96 fi96
 h49 : Has B 49 fi49
 h16 : Has B 16 fi16
theorem Bytes.drop {l:List D} (h:Bytes l) (n:Nat) : Bytes (l.drop n):=fun d hd=>h d (List.mem_of_mem_drop hd)
section
variable {B:S.BookM} (hB:FdB B)
include hB
theorem eq49 {a b:List D} (ha:Bytes a) (hb:Bytes b) (la:a.length ≤ 9223372036854775807) (lb:b.length ≤ 9223372036854775807) :
  ∃ x y z c,Made x y z c ∧ S.pureS (S.sem B) [.any] 49 [.im (.sl false 1 a),.im (.sl false 1 b)] = some (.agg [.sl true 4 (prD x y z)],()):=by
 have w : IntKind.wrap .i64 (Int.tdiv ((b.length : Nat) : Int) (2:Int)) = ((b.length / 2 : Nat) : Int):=by
  rw [show Int.tdiv ((b.length : Nat) : Int) (2:Int) = ((b.length / 2 : Nat) : Int) from rfl]
  exact wrap_ok (by omega) (by omega)
 have hb2 : (b.drop (b.length / 2)).length ≤ 9223372036854775807:=by rw [List.length_drop]; omega
 obtain ⟨x,t1,e1,g1,n1,p1,p2,p3,p4,p5⟩:=stmts_all hB.T hB.h194 hB.h195 hB.h152 hB.h96 (ints:=iG) (arrs:=aG) (by decide) (by decide) hb (by omega) 1 (by omega) (Nat.zero_le _) (e:=4) (g:=0) false false (by omega) (most:=4) (by omega)
 obtain ⟨y,t2,e2,g2,n2,q1,q2,q3,q4,q5⟩:=stmts_all hB.T hB.h194 hB.h195 hB.h152 hB.h96 (ints:=iH) (arrs:=aG) (by decide) (by decide) (hb.drop (b.length / 2)) hb2 1 (by omega) (Nat.zero_le _) (e:=3) (g:=0) false false (by omega) (most:=3) (by omega)
 obtain ⟨z,t3,e3,g3,n3,r1,r2,r3,r4,r5⟩:=stmts_all hB.T hB.h194 hB.h195 hB.h152 hB.h96 (ints:=iM) (arrs:=aM) (by decide) (by decide) ha (by omega) 2 (by omega) (Nat.zero_le _) (e:=24) (g:=0) true false (by omega) (most:=14) (by omega)
 have z1:=p3.nomain
 have z2:=q3.nomain
 subst z1
 subst z2
 refine ⟨x,y,z,g3,⟨⟨n1,by omega,p3⟩,⟨n2,by omega,q3⟩,⟨n3,by omega,r3⟩⟩,pureB hB.T hB.h49 (lf:=0) ((F49_eq _ _ _ _).trans ?_)⟩
 unfold F49
 rw [w,List.take_length,Int.toNat_natCast]
 refine S.cpos (dtrue (by omega)) ?_
 refine S.cpos (dtrue (by omega)) ?_
 refine S.optP p5 ?_
 refine S.optP q5 ?_
 refine S.optP r5 ?_
 rfl
theorem eq16 {a b p:List D} (ha:Bytes a) (hb:Bytes b) (la:a.length ≤ 9223372036854775807) (lb:b.length ≤ 9223372036854775807) :
  ∃ x y z c,Made x y z c ∧ S.pureS (S.sem B) [.any] 16 [.im (.agg [.sl false 4 p,.bool true,.sl false 1 a,.sl false 1 b])] = some (.agg [.sl false 4 (prD x y z)],()):=by
 obtain ⟨x,y,z,c,hm,e⟩:=eq49 hB ha hb la lb
 refine ⟨x,y,z,c,hm,pureB hB.T hB.h16 (lf:=0) ((F16_eq _ _ _ _ _ _).trans ?_)⟩
 unfold F16
 refine S.cneg rfl ?_
 refine S.optP e ?_
 refine S.optP (a:=prD x y z) rfl ?_
 rfl
end
end Go.Proofs.YtkinbnepkpoofaaGreatDoor