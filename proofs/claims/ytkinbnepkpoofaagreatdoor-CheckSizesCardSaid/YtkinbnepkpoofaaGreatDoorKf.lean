/- Texts joined into one: S0 S1 S5 S2 S6 S7 S8 S3 S4 S9. -/
import Derived.Test.YtkinbnepkpoofaaGreatDoorKd
import Derived.Test.YtkinbnepkpoofaaGreatDoorKc
/- The abstract machine, part S0: the operations once more, what comes next handed in, with an answer. -/
set_option linter.unusedVariables false
set_option linter.unusedSimpArgs false
namespace Go.AM.S
open Go.AM
def optZ {α β : Type} (o : Option α) (p : α → Option β) : Option β := match o with
 | some a => p a
 | none => none
def grdZ {β : Type} (c : Prop) [Decidable c] (k : Option β) : Option β := cond (decide c) k none
@[simp] theorem optZ_some {α β : Type} (a : α) (p : α → Option β) : optZ (some a) p = p a := rfl
@[simp] theorem optZ_none {α β : Type} (p : α → Option β) : optZ (none : Option α) p = none := rfl
theorem optZ_spec {α β : Type} {o : Option α} {p : α → Option β} {r : β} (h : optZ o p = some r) : ∃ a, o = some a ∧ p a = some r := by
 cases o with
 | none => cases h
 | some a => exact ⟨a, rfl, h⟩
theorem grdZ_spec {β : Type} {c : Prop} [Decidable c] {k : Option β} {r : β} (h : grdZ c k = some r) : c ∧ k = some r := by
 unfold grdZ at h
 by_cases hc : c
 ·
  exact ⟨hc, by simpa [hc] using h⟩
 ·
  simp [hc] at h
theorem grdZ_mk {β : Type} {c : Prop} [Decidable c] {k : Option β} {r : β} (hc : c) (h : k = some r) : grdZ c k = some r := by
 unfold grdZ
 simpa [hc] using h
@[simp] theorem grdZ_pos {β : Type} {c : Prop} [Decidable c] {k : Option β} (hc : c) : grdZ c k = k := by
 unfold grdZ
 simp [hc]
section
variable {β : Type} {r : β}
def castCZ : Sc → D → (D → Option β) → Option β
 | .any, d, k => k d
 | .int kd, d, k => optZ (d.asInt kd) fun n => k (.int kd n)
 | .bool, d, k => optZ d.asBool fun n => k (.bool n)
 | .str, d, k => optZ d.asStr fun n => k (.str n)
 | .sl z, d, k => optZ (d.asSl z) fun n => k (.sl false z n)
 | .fn g, d, k => optZ (d.asFn g) fun _ => k (.fn (.func g) [] [])
def castCsZ : List Sc → List D → (List D → Option β) → Option β
 | [], [], k => k []
 | s :: ss, d :: ds, k => castCZ s d fun x => castCsZ ss ds fun xs => k (x :: xs)
 | _, _, _ => none
def unListZ : Nat → List D → (List D → Option β) → Option β
 | 0, l, k => match l with
  | [] => k []
  | _ :: _ => none
 | n + 1, l, k => match l with
  | [] => none
  | d :: l => unListZ n l fun ds => k (d :: ds)
def scDec : (s : Sc) → D → Option s.T
 | .any, d => some d
 | .int k, d => d.asInt k
 | .bool, d => d.asBool
 | .str, d => d.asStr
 | .sl z, d => d.asSl z
 | .fn g, d => d.asFn g
def scsDec : (l : List Sc) → List D → Option (Scs.T l)
 | [], cs => match cs with
  | [] => some ()
  | _ :: _ => none
 | [s], cs => match cs with
  | [d] => scDec s d
  | _ => none
 | s :: t :: ss, cs => match cs with
  | [] => none
  | d :: cs => match scDec s d with
   | some x => match scsDec (t :: ss) cs with
    | some y => some (x, y)
    | none => none
   | none => none
def stDec (l : List Sc) (d : D) : Option (Scs.T l) := match d with
 | .agg cs => scsDec l cs
 | _ => none
theorem scDec_eq {s : Sc} {d : D} {x : s.T} (h : scDec s d = some x) : castC s d = some (s.enc x) := by
 cases s <;> simp only [scDec] at h
 ·
  cases h; rfl
 all_goals (simp only [castC, h]; rfl)
theorem scsDec_eq : ∀ {l : List Sc} {cs : List D} {x : Scs.T l}, scsDec l cs = some x → castCs l cs = some (Scs.enc l x)
 | [], cs, x, h => by
  simp only [scsDec] at h
  split at h
  ·
   rfl
  ·
   cases h
 | [s], cs, x, h => by
  simp only [scsDec] at h
  split at h
  ·
   simp only [castCs, scDec_eq h]; rfl
  ·
   cases h
 | s :: t :: ss, cs, x, h => by
  simp only [scsDec] at h
  split at h
  ·
   cases h
  ·
   split at h
   ·
    rename_i hx
    split at h
    ·
     rename_i hy
     cases h
     rw [castCs, scDec_eq hx, scsDec_eq hy]; rfl
    ·
     cases h
   ·
    cases h
theorem stDec_eq {l : List Sc} {d : D} {x : Scs.T l} (h : stDec l d = some x) : castD (.st l) d = some (.agg (Scs.enc l x)) := by
 unfold stDec at h
 split at h
 ·
  simp only [castD, D.asAgg, scsDec_eq h]
 ·
  cases h
def castDZ : Sh → D → (D → Option β) → Option β
 | .any, d, k => k d
 | .c s, d, k => castCZ s d k
 | .st l, d, k => optZ (stDec l d) fun x => k (.agg (Scs.enc l x))
def castVZ (c : Cs) (v : AV) (k : AV → Option β) : Option β := match c with
 | .any => k v
 | .p s => match v with
  | .pe d n => castDZ s d fun d' => k (.pe d' n)
  | v => k v
 | .v s => match v with
  | .im d => castDZ s d fun d' => k (.im d')
  | v => k v
theorem unListZ_spec : ∀ (n : Nat) {l : List D} {k : List D → Option β}, unListZ n l k = some r → k l = some r
 | 0, [], k, h => h
 | 0, _ :: _, k, h => by cases h
 | n + 1, [], k, h => by cases h
 | n + 1, d :: l, k, h => by
  unfold unListZ at h
  exact unListZ_spec n (k := fun ds => k (d :: ds)) h
theorem castCZ_spec {s : Sc} {d : D} {k : D → Option β} (h : castCZ s d k = some r) : ∃ x, castC s d = some x ∧ k x = some r := by
 cases s with
 | any => exact ⟨d, rfl, h⟩
 | _ =>
  obtain ⟨n, hd, h⟩ := optZ_spec h
  exact ⟨_, by simp only [castC, hd], h⟩
theorem castCsZ_spec : ∀ {l : List Sc} {ds : List D} {k : List D → Option β}, castCsZ l ds k = some r → ∃ x, castCs l ds = some x ∧ k x = some r
 | [], [], k, h => ⟨[], rfl, h⟩
 | [], _ :: _, k, h => by simp [castCsZ] at h
 | _ :: _, [], k, h => by simp [castCsZ] at h
 | s :: ss, d :: ds, k, h => by
  unfold castCsZ at h
  obtain ⟨x, hx, h⟩ := castCZ_spec h
  obtain ⟨xs, hxs, h⟩ := castCsZ_spec h
  exact ⟨x :: xs, by simp only [castCs, hx, hxs], h⟩
theorem castDZ_spec {s : Sh} {d : D} {k : D → Option β} (h : castDZ s d k = some r) : ∃ x, castD s d = some x ∧ k x = some r := by
 unfold castDZ at h
 split at h
 ·
  exact ⟨d, rfl, h⟩
 ·
  exact castCZ_spec h
 ·
  obtain ⟨x, hx, h⟩ := optZ_spec h
  exact ⟨_, stDec_eq hx, h⟩
theorem castVZ_spec {s : Cs} {v : AV} {k : AV → Option β} (h : castVZ s v k = some r) : ∃ x, castV s v = some x ∧ k x = some r := by
 cases s with
 | any => exact ⟨v, by cases v <;> rfl, h⟩
 | p s =>
  cases v with
  | pe d n =>
   obtain ⟨x, hx, h⟩ := castDZ_spec h
   exact ⟨_, by simp only [castV, hx], h⟩
  | _ => exact ⟨_, rfl, h⟩
 | v s =>
  cases v with
  | im d =>
   obtain ⟨x, hx, h⟩ := castDZ_spec h
   exact ⟨_, by simp only [castV, hx], h⟩
  | _ => exact ⟨_, rfl, h⟩
def bndZ (x : AV) (y : Nat) (k : Nat → Option β) : Option β := match x with
 | .im (.int _ i) => grdZ (0 ≤ i) (grdZ (i ≤ (y : Int)) (k i.toNat))
 | _ => none
def bndOZ (env : Env) (x : Option Operand) (y d : Nat) (k : Nat → Option β) : Option β := match x with
 | some x => match opd env x with
  | some v => bndZ v y k
  | none => none
 | none => k d
theorem bndOZ_spec {env : Env} {x : Option Operand} {y d : Nat} {k : Nat → Option β} (h : bndOZ env x y d k = some r) : ∃ n, bndO env x y d = some n ∧ k n = some r := by
 unfold bndOZ at h
 split at h
 ·
  split at h
  ·
   rename_i hv
   unfold bndZ at h
   split at h
   ·
    obtain ⟨h1, h⟩ := grdZ_spec h
    obtain ⟨h2, h⟩ := grdZ_spec h
    exact ⟨_, by simp only [bndO, hv, bnd, h1, h2, if_true], h⟩
   ·
    cases h
  ·
   cases h
 ·
  exact ⟨d, rfl, h⟩
def indexAddrZ (T : Tab) (env : Env) (H : Heap) (t : TypeId) (x i : Operand) (k : AV → Option β) : Option β := match T.ty t with
 | some ⟨.slice e, _, _, _⟩ => match T.ty e with
  | some ie => match opd env i with
   | some (.im (.int _ n)) => match opd env x with
    | some (.im (.sl _ sz es)) => if sz == ie.size then grdZ (0 ≤ n) (optZ es[n.toNat]? fun d => k (.pe d 0)) else none
    | some (.ref id off len) => match H[id]? with
     | some (some b) => if b.sz == ie.size then grdZ (0 ≤ n) (grdZ (n.toNat < len) (k (.ptr id (off + n.toNat) 0))) else none
     | _ => none
    | _ => none
   | _ => none
  | none => none
 | _ => none
theorem indexAddrZ_spec {T : Tab} {env : Env} {H : Heap} {o : Oper} {t : TypeId} {x i : Operand} (ho : o.op = .indexAddr t x i) {k : AV → Option β} (h : indexAddrZ T env H t x i k = some r) : ∃ v, ev0 T env H o = some v ∧ k v = some r := by
 unfold indexAddrZ at h
 unfold ev0
 rw [ho]
 simp only
 split at h
 ·
  split at h
  ·
   split at h
   ·
    split at h
    ·
     split at h
     ·
      obtain ⟨h0, h⟩ := grdZ_spec h
      obtain ⟨d, hd, h⟩ := optZ_spec h
      exact ⟨_, by simp only [*, if_true], h⟩
     ·
      cases h
    ·
     split at h
     ·
      split at h
      ·
       obtain ⟨h0, h⟩ := grdZ_spec h
       obtain ⟨h1, h⟩ := grdZ_spec h
       exact ⟨_, by simp only [*, if_true], h⟩
      ·
       cases h
     ·
      cases h
    ·
     cases h
   ·
    cases h
  ·
   cases h
 ·
  cases h
def indexZ (T : Tab) (env : Env) (H : Heap) (o : Oper) (t : TypeId) (x i : Operand) (k : AV → Option β) : Option β := match T.ty t with
 | some ⟨.string, _, _, _⟩ => match opd env i with
  | some (.im (.int _ n)) => match opd env x with
   | some (.im (.str s)) => grdZ (0 ≤ n) (optZ s[n.toNat]? fun c => k (.im (.int .u8 c.toNat)))
   | _ => none
  | _ => none
 | _ => match ev0 T env H o with
  | some v => k v
  | none => none
theorem indexZ_spec {T : Tab} {env : Env} {H : Heap} {o : Oper} {t : TypeId} {x i : Operand} (ho : o.op = .index t x i) {k : AV → Option β} (h : indexZ T env H o t x i k = some r) : ∃ v, ev0 T env H o = some v ∧ k v = some r := by
 unfold indexZ at h
 split at h
 ·
  unfold ev0
  rw [ho]
  simp only
  split at h
  ·
   split at h
   ·
    obtain ⟨h0, h⟩ := grdZ_spec h
    obtain ⟨d, hd, h⟩ := optZ_spec h
    exact ⟨_, by simp only [*, if_true], h⟩
   ·
    cases h
  ·
   cases h
 ·
  split at h
  ·
   rename_i hv; exact ⟨_, hv, h⟩
  ·
   cases h
def sliceZ (T : Tab) (env : Env) (H : Heap) (t : TypeId) (x : Operand) (lo hi : Option Operand) (k : AV → Option β) : Option β := match T.ty t with
 | some ⟨.string, _, _, _⟩ => match opd env x with
  | some (.im (.str s)) => bndOZ env hi s.length s.length fun h => bndOZ env lo h 0 fun l => k (.im (.str ((s.take h).drop l)))
  | _ => none
 | some ⟨.slice e, _, _, _⟩ => match T.ty e with
  | some i => match opd env x with
   | some (.im (.sl _ sz es)) => if sz == i.size then bndOZ env hi es.length es.length fun h => bndOZ env lo h 0 fun l => k (.im (.sl false sz ((es.take h).drop l))) else none
   | some (.ref id off len) => match H[id]? with
    | some (some b) => if b.sz == i.size then bndOZ env hi len len fun h => bndOZ env lo h 0 fun l => k (.ref id (off + l) (h - l)) else none
    | _ => none
   | _ => none
  | none => none
 | _ => none
theorem sliceZ_spec {T : Tab} {env : Env} {H : Heap} {o : Oper} {t : TypeId} {x : Operand} {lo hi : Option Operand} (ho : o.op = .slice t x lo hi none) {k : AV → Option β} (h : sliceZ T env H t x lo hi k = some r) : ∃ v, ev0 T env H o = some v ∧ k v = some r := by
 unfold sliceZ at h
 unfold ev0
 rw [ho]
 simp only
 split at h
 ·
  split at h
  ·
   obtain ⟨n, hn, h⟩ := bndOZ_spec h
   obtain ⟨m, hm, h⟩ := bndOZ_spec h
   exact ⟨_, by simp only [*, if_true], h⟩
  ·
   cases h
 ·
  split at h
  ·
   split at h
   ·
    split at h
    ·
     skip
     obtain ⟨n, hn, h⟩ := bndOZ_spec h
     obtain ⟨m, hm, h⟩ := bndOZ_spec h
     exact ⟨_, by simp only [*, if_true], h⟩
    ·
     cases h
   ·
    split at h
    ·
     split at h
     ·
      skip
      obtain ⟨n, hn, h⟩ := bndOZ_spec h
      obtain ⟨m, hm, h⟩ := bndOZ_spec h
      exact ⟨_, by simp only [*, if_true], h⟩
     ·
      cases h
    ·
     cases h
   ·
    cases h
  ·
   cases h
 ·
  cases h
def binIntZ (op : BinOp) (kd : IntKind) (a : Int) (kd' : IntKind) (b : Int) (k : D → Option β) : Option β := match op with
 | .shl => grdZ (0 ≤ b) (k (.int kd (kd.wrap (a * 2 ^ (min b.toNat kd.bits)))))
 | .shr => grdZ (0 ≤ b) (k (.int kd (a.fdiv (2 ^ (min b.toNat kd.bits)))))
 | .quo => if kd = kd' then grdZ (b ≠ 0) (k (.int kd (kd.wrap (a.tdiv b)))) else none
 | .rem => if kd = kd' then grdZ (b ≠ 0) (k (.int kd (a.tmod b))) else none
 | _ => match binInt op kd a kd' b with
  | some d => k d
  | none => none
theorem binIntZ_spec {op : BinOp} {kd kd' : IntKind} {a b : Int} {k : D → Option β} (h : binIntZ op kd a kd' b k = some r) : ∃ d, binInt op kd a kd' b = some d ∧ k d = some r := by
 unfold binIntZ at h
 split at h
 ·
  obtain ⟨hb, h⟩ := grdZ_spec h
  have hb : ¬ b < 0 := by omega
  exact ⟨_, by simp only [binInt, hb, if_false], h⟩
 ·
  obtain ⟨hb, h⟩ := grdZ_spec h
  have hb : ¬ b < 0 := by omega
  exact ⟨_, by simp only [binInt, hb, if_false], h⟩
 ·
  split at h
  ·
   rename_i hk
   obtain ⟨hb, h⟩ := grdZ_spec h
   exact ⟨_, by simp only [binInt, hk, hb, if_false, if_true], h⟩
  ·
   cases h
 ·
  split at h
  ·
   rename_i hk
   obtain ⟨hb, h⟩ := grdZ_spec h
   exact ⟨_, by simp only [binInt, hk, hb, if_false, if_true], h⟩
  ·
   cases h
 ·
  split at h
  ·
   rename_i hd; exact ⟨_, hd, h⟩
  ·
   cases h
def binOpZ (T : Tab) (env : Env) (H : Heap) (o : Oper) (op : BinOp) (t : TypeId) (x y : Operand) (k : AV → Option β) : Option β := match opd env x, opd env y with
 | some (.im (.int kd a)), some (.im (.int kd' b)) => binIntZ op kd a kd' b fun d => k (.im d)
 | some (.im (.str a)), some (.im (.str b)) => match op with
  | .add => grdZ (a.length + b.length ≤ 9223372036854775807) (k (.im (.str (a ++ b))))
  | _ => match binStr op a b with
   | some d => k (.im d)
   | none => none
 | some (.im (.agg a)), some (.im (.agg b)) => if eqOn T t a b then match eqAnd a b with
  | some r => match eqOp op r with
   | some d => k (.im d)
   | none => none
  | none => none
  else none
 | _, _ => match ev0 T env H o with
  | some v => k v
  | none => none
theorem binOpZ_spec {T : Tab} {env : Env} {H : Heap} {o : Oper} {op : BinOp} {t u : TypeId} {x y : Operand} (ho : o.op = .binOp op t x y u) {k : AV → Option β} (h : binOpZ T env H o op t x y k = some r) : ∃ v, ev0 T env H o = some v ∧ k v = some r := by
 unfold binOpZ at h
 split at h
 ·
  rename_i hx hy
  obtain ⟨d, hd, h⟩ := binIntZ_spec h
  refine ⟨.im d, ?_, h⟩
  unfold ev0
  rw [ho]
  simp only [hx, hy, hd, Option.map_some]
 ·
  rename_i a b hx hy
  have e0 : ev0 T env H o = (binStr op a b).map .im := by
   unfold ev0
   rw [ho]
   simp only [hx, hy]
  rw [e0]
  split at h
  ·
   obtain ⟨hl, h⟩ := grdZ_spec h
   exact ⟨_, by simp only [binStr, hl, if_true, Option.map_some], h⟩
  ·
   split at h
   ·
    rename_i hd
    exact ⟨_, by simp only [hd, Option.map_some], h⟩
   ·
    cases h
 ·
  rename_i a b hx hy
  split at h
  ·
   rename_i ht
   split at h
   ·
    rename_i hr
    split at h
    ·
     rename_i he
     refine ⟨_, ?_, h⟩
     unfold ev0
     rw [ho]
     simp only [hx, hy, ht, if_true, eqAnd_spec hr, he, Option.map_some]
    ·
     cases h
   ·
    cases h
  ·
   cases h
 ·
  split at h
  ·
   rename_i hv; exact ⟨_, hv, h⟩
  ·
   cases h
def selZ (env : Env) (c a b : Operand) (k : AV → Option β) : Option β := match opd env c with
 | some (.im (.bool t)) => cond t (match opd env a with
  | some v => k v
  | none => none) (match opd env b with
  | some v => k v
  | none => none)
 | _ => none
theorem selZ_spec {T : Tab} {env : Env} {H : Heap} {o : Oper} {c a b : Operand} (ho : o.op = .pick c a b) {k : AV → Option β} (h : selZ env c a b k = some r) : ∃ v, ev0 T env H o = some v ∧ k v = some r := by
 unfold selZ at h
 unfold ev0
 rw [ho]
 simp only
 split at h
 ·
  rename_i t hc
  simp only [hc]
  cases t with
  | true =>
   simp only [cond_true] at h
   split at h
   ·
    rename_i v hv; exact ⟨v, by simp [hv], h⟩
   ·
    cases h
  | false =>
   simp only [cond_false] at h
   split at h
   ·
    rename_i v hv; exact ⟨v, by simp [hv], h⟩
   ·
    cases h
 ·
  cases h
def un1 (d : D) : D := match d with
 | .agg [x] => x
 | d => d
theorem un1_cells {d : D} {s : Sc} {x : D} (h : castC s (un1 d) = some x) (hs : s ≠ .any) : d.cells = [un1 d] := by
 unfold un1 at h ⊢
 split at h
 ·
  rfl
 ·
  exact noAgg_cells (castC_noAgg h hs)
def loadDZ (agg : Bool) (sz bsz : Nat) (d : D) (k : Nat) (c : Cs) (K : AV → Option β) : Option β :=
 if k == 0 && sz == bsz then match c with
  | .v (.c .any) => if !agg && sz == 1 then grdZ (d.noAgg = true) (K (.im d)) else none
  | .v (.c s) => if !agg && sz == 1 then castCZ s (un1 d) fun d' => K (.im d') else none
  | .v (.st l) => if agg && l.length == sz then castDZ (.st l) d fun d' => K (.im d') else none
  | c => match part' agg sz (d.cells.map .im) k with
   | some v => castVZ c v K
   | none => none
 else if agg then match part' agg sz (d.cells.map .im) k with
   | some v => castVZ c v K
   | none => none
  else optZ d.asAgg fun cs => optZ cs[k]? fun x => castVZ c (.im x) K
theorem loadDZ_spec {agg : Bool} {sz bsz : Nat} {d : D} {k : Nat} {c : Cs} {K : AV → Option β} (h : loadDZ agg sz bsz d k c K = some r) : ∃ v v', part' agg sz (d.cells.map .im) k = some v ∧ castV c v = some v' ∧ K v' = some r := by
 unfold loadDZ at h
 split at h
 ·
  rename_i hk
  simp only [Bool.and_eq_true, beq_iff_eq] at hk
  obtain ⟨rfl, hsz⟩ := hk
  split at h
  ·
   split at h
   ·
    rename_i hc
    simp only [Bool.and_eq_true, beq_iff_eq, Bool.not_eq_true'] at hc
    obtain ⟨ha, hs⟩ := hc
    obtain ⟨hn, h⟩ := grdZ_spec h
    refine ⟨.im d, .im d, ?_, rfl, h⟩
    rw [noAgg_cells hn, ha]
    rfl
   ·
    cases h
  ·
   rename_i s hs
   split at h
   ·
    rename_i hc
    simp only [Bool.and_eq_true, beq_iff_eq, Bool.not_eq_true'] at hc
    obtain ⟨ha, hsz1⟩ := hc
    obtain ⟨x, hx, h⟩ := castCZ_spec h
    refine ⟨.im (un1 d), .im x, ?_, ?_, h⟩
    ·
     rw [un1_cells hx (fun e => hs e), ha]
     rfl
    ·
     simp only [castV, castD, hx]
   ·
    cases h
  ·
   rename_i l
   split at h
   ·
    rename_i hc
    simp only [Bool.and_eq_true, beq_iff_eq] at hc
    obtain ⟨ha, hl⟩ := hc
    obtain ⟨x, hx, h⟩ := castDZ_spec h
    refine ⟨.im d, .im x, ?_, by simp only [castV, hx], h⟩
    unfold castD at hx
    simp only at hx
    split at hx
    ·
     rename_i cs hd
     split at hx
     ·
      rename_i l' hl'
      have := castCs_len hl'
      cases d <;> simp [D.asAgg] at hd
      subst hd
      subst ha
      rename_i cs
      have e : part' true sz (cs.map AV.im) 0 = some (mkAgg (cs.map AV.im)) := by
       have h1 : sz ≤ cs.length := by omega
       have h2 : (cs.map AV.im).take sz = cs.map AV.im := List.take_of_length_le (by simp; omega)
       simp [part', h1, h2]
      rw [mkAgg_mapim] at e
      exact e
     ·
      simp at hx
    ·
     simp at hx
   ·
    cases h
  ·
   split at h
   ·
    rename_i hv
    obtain ⟨x, hx, h⟩ := castVZ_spec h
    exact ⟨_, x, hv, hx, h⟩
   ·
    cases h
 ·
  split at h
  ·
   split at h
   ·
    rename_i hv
    obtain ⟨x, hx, h⟩ := castVZ_spec h
    exact ⟨_, x, hv, hx, h⟩
   ·
    cases h
  ·
   rename_i ha
   obtain ⟨cs, hd, h⟩ := optZ_spec h
   obtain ⟨x, hx, h⟩ := optZ_spec h
   obtain ⟨y, hy, h⟩ := castVZ_spec h
   refine ⟨.im x, y, ?_, hy, h⟩
   cases d <;> simp [D.asAgg] at hd
   subst hd
   simp only [Bool.not_eq_true] at ha
   rw [ha]
   simp [part', D.cells, hx]
def partZ (agg : Bool) (sz : Nat) (cs : List AV) (k : Nat) (c : Cs) (K : AV → Option β) : Option β := match part' agg sz cs k with
 | some v => castVZ c v K
 | none => none
theorem partZ_spec {agg : Bool} {sz : Nat} {cs : List AV} {k : Nat} {c : Cs} {K : AV → Option β} (h : partZ agg sz cs k c K = some r) : ∃ v v', part' agg sz cs k = some v ∧ castV c v = some v' ∧ K v' = some r := by
 unfold partZ at h
 split at h
 ·
  rename_i hv
  obtain ⟨x, hx, h⟩ := castVZ_spec h
  exact ⟨_, x, hv, hx, h⟩
 ·
  cases h
def loadZ (T : Tab) (c : Cs) (env : Env) (H : Heap) (t : TypeId) (a : Operand) (K : AV → Option β) : Option β := match T.ty t with
 | some i => match opd env a with
  | some (.ptr id j k) => match H[id]? with
   | some (some b) => match b with
    | .c sz ds => optZ ds[j]? fun d => loadDZ (isAggD i.desc) i.size sz d k c K
    | .m sz es => optZ es[j]? fun e => partZ (isAggD i.desc) i.size e.cells k c K
    | .o _ => none
   | _ => none
  | some (.pe d k) => partZ (isAggD i.desc) i.size (d.cells.map .im) k c K
  | _ => none
 | none => none
theorem loadZ_spec {T : Tab} {c : Cs} {env : Env} {H : Heap} {o : Oper} {t : TypeId} {a : Operand} (ho : o.op = .load t a) {K : AV → Option β} (h : loadZ T c env H t a K = some r) : ∃ v v', ev0 T env H o = some v ∧ castV c v = some v' ∧ K v' = some r := by
 unfold loadZ at h
 unfold ev0
 rw [ho]
 simp only
 split at h
 ·
  rename_i i hi
  split at h
  ·
   rename_i id j k ha
   split at h
   ·
    rename_i b hb
    split at h
    ·
     rename_i sz ds
     obtain ⟨d, hd, h⟩ := optZ_spec h
     obtain ⟨v, v', h1, h2, h3⟩ := loadDZ_spec h
     refine ⟨v, v', ?_, h2, h3⟩
     rw [← h1]
     simp [hi, ha, elem, hb, Blk.get, hd, im_cells]
    ·
     rename_i sz es
     obtain ⟨d, hd, h⟩ := optZ_spec h
     obtain ⟨v, v', h1, h2, h3⟩ := partZ_spec h
     refine ⟨v, v', ?_, h2, h3⟩
     rw [← h1]
     simp [hi, ha, elem, hb, Blk.get, hd]
    ·
     cases h
   ·
    cases h
  ·
   rename_i d k ha
   obtain ⟨v, v', h1, h2, h3⟩ := partZ_spec h
   refine ⟨v, v', ?_, h2, h3⟩
   rw [← h1]
   simp [hi, ha]
  ·
   cases h
 ·
  cases h
def makeSliceZ (T : Tab) (env : Env) (id : Nat) (t : TypeId) (l c : Operand) (K : AV → Option Blk → Option β) : Option β := match T.ty t with
 | some ⟨.slice e, _, _, _⟩ => match T.ty e with
  | some ie => match constD ie.zero, opd env l, opd env c with
   | some z, some (.im (.int _ n)), some (.im (.int _ m)) =>
    if z.cells.length == ie.size && ie.size != 0 then grdZ (n = m) (grdZ (0 ≤ n) (grdZ (n * ie.bytes ≤ 140737488355328) (grdZ (n ≤ 140737488355328) (K (.ref id 0 (rep n.toNat z).length) (some (.c ie.size (rep n.toNat z))))))) else none
   | _, _, _ => none
  | none => none
 | _ => none
theorem makeSliceZ_spec {T : Tab} {own : Nat → Bool} {env : Env} {id : Nat} {o : Oper} {t : TypeId} {l c : Operand} (ho : o.op = .makeSlice t l c) {K : AV → Option Blk → Option β} (h : makeSliceZ T env id t l c K = some r) :
  ∃ ans, ev1 T own env o = some ans ∧ K (ans.av id) ans.blk = some r := by
 unfold makeSliceZ at h
 unfold ev1
 rw [ho]
 simp only
 split at h
 ·
  split at h
  ·
   split at h
   ·
    split at h
    ·
     rename_i hc
     obtain ⟨h1, h⟩ := grdZ_spec h
     obtain ⟨h2, h⟩ := grdZ_spec h
     obtain ⟨h3, h⟩ := grdZ_spec h
     obtain ⟨h4, h⟩ := grdZ_spec h
     simp only [Bool.and_eq_true] at hc
     rename_i ie _ _ _ _ z _ n _ m hz hl hm _ _ _ _
     refine ⟨.row (.c ie.size (rep n.toNat z)), ?_, h⟩
     simp only [*]
     rw [if_pos]
     simp only [Bool.and_eq_true, hc, h1, decide_eq_true_eq, beq_self_eq_true]
     subst h1
     exact ⟨⟨⟨⟨⟨trivial, trivial⟩, trivial⟩, h2⟩, h3⟩, h4⟩
    ·
     cases h
   ·
    cases h
  ·
   cases h
 ·
  cases h
def storePZ (H : Heap) (id j : Nat) (b : Blk) (k sz : Nat) (v : AV) (K : Heap → Option β) : Option β := match b.get j with
 | some e => grdZ (k + sz ≤ e.cells.length) (K (H.set id (some (b.put j (mkEl (spl e.cells k v.cells))))))
 | none => none
def evSZ (T : Tab) (env : Env) (H : Heap) (o : Oper) (K : Heap → Option β) : Option β := match o.op with
 | .store t x y => match T.ty t, opd env x, opd env y with
  | some i, some (.ptr id j k), some v => match H[id]? with
   | some (some b) => if v.cells.length == i.size && i.size != 0 && v.cells.all okCell then
     (if k == 0 && i.size == b.sz then grdZ (j < b.len) (K (H.set id (some (b.put j (mkEl v.cells)))))
     else match b with
      | .c sz ds => match clo v with
       | some d => if i.size == 1 && d.noAgg then optZ ds[j]? fun e => optZ e.asAgg fun cs => grdZ (cs.length ≠ 1) (grdZ (k < cs.length) (K (H.set id (some (.c sz (ds.set j (.agg (cs.set k d))))))))
        else storePZ H id j (.c sz ds) k i.size v K
       | none => storePZ H id j (.c sz ds) k i.size v K
      | .m sz es => storePZ H id j (.m sz es) k i.size v K
      | .o _ => none)
    else none
   | _ => none
  | _, _, _ => none
 | _ => none
theorem evSZ_spec {T : Tab} {env : Env} {H : Heap} {o : Oper} {K : Heap → Option β} (h : evSZ T env H o K = some r) : ∃ H', evS T env H o = some H' ∧ K H' = some r := by
 unfold evSZ at h
 split at h
 ·
  rename_i t x y ho
  split at h
  ·
   rename_i i id j k v hi hx hy
   split at h
   ·
    rename_i b hb
    split at h
    ·
     rename_i hc
     split at h
     ·
      rename_i hk
      obtain ⟨hj, h⟩ := grdZ_spec h
      refine ⟨_, ?_, h⟩
      unfold evS
      rw [ho]
      simp only [hi, hx, hy, hb]
      rw [if_pos hc, if_pos hk, if_pos hj]
     ·
      rename_i hk
      have gen : ∀ {b : Blk}, H[id]? = some (some b) → ¬ (k == 0 && i.size == b.sz) = true → storePZ H id j b k i.size v K = some r → ∃ H', evS T env H o = some H' ∧ K H' = some r := by
       intro b hb hk h
       unfold storePZ at h
       split at h
       ·
        rename_i e he
        obtain ⟨h1, h⟩ := grdZ_spec h
        refine ⟨_, ?_, h⟩
        unfold evS
        rw [ho]
        simp only [hi, hx, hy, hb]
        rw [if_pos hc, if_neg hk]
        simp only [he]
        rw [if_pos h1]
       ·
        cases h
      split at h
      ·
       rename_i sz ds
       split at h
       ·
        rename_i d hd
        split at h
        ·
         rename_i hs1
         obtain ⟨e, he, h⟩ := optZ_spec h
         obtain ⟨cs, hcs, h⟩ := optZ_spec h
         obtain ⟨hl1, h⟩ := grdZ_spec h
         obtain ⟨hkl, hfin⟩ := grdZ_spec h
         refine gen hb hk ?_
         have hv := clo_eq hd
         subst hv
         simp only [Bool.and_eq_true, beq_iff_eq] at hs1
         have hee := asAgg_eq hcs
         subst hee
         have hd1 : (AV.im d).cells = [.im d] := by rw [im_cells, noAgg_cells hs1.2]; rfl
         have hg : (Blk.c sz ds).get j = some (.im (.agg cs)) := by simp [Blk.get, he]
         unfold storePZ
         simp only [hg]
         refine grdZ_mk (by simp [AV.cells]; omega) ?_
         have : mkEl (spl (AV.im (.agg cs)).cells k (AV.im d).cells) = .im (.agg (cs.set k d)) := by
          rw [hd1]
          simp only [AV.cells, spl, set_mapim]
          exact mkEl_mapim (by simpa using hl1)
         rw [this]
         exact hfin
        ·
         exact gen hb hk h
       ·
        exact gen hb hk h
      ·
       exact gen hb hk h
      ·
       cases h
    ·
     cases h
   ·
    cases h
  ·
   cases h
 ·
  cases h
def evAZ (T : Tab) (nl : Nat) (env : Env) (H : Heap) (o : Oper) (K : AV → Env → Heap → Option β) : Option β := match o.op with
 | .call { callee := .builtin .append, args, argTypes } => match argTypes.toList, opds env args.toList with
  | [t, t'], some [s, x] => if t == t' then match T.ty t with
   | some ⟨.slice e, _, _, _⟩ => match T.ty e with
    | some ie => match constD ie.zero, srcB ie.size H s, srcB ie.size H x with
     | some z, some bs, some bx => if ie.size != 0 && z.cells.length == ie.size then
       cond (bx.es.all (fun e => e.cells.all okCell)) (grdZ ((bs.app ie.size bx).len * ie.bytes ≤ 140737488355328) (grdZ ((bs.app ie.size bx).len ≤ 140737488355328) (match s with
        | .ref id _ _ =>
         if Nat.ble nl id then K (.ref id 0 ((bs.app ie.size bx).sub id (fun _ _ => .bad)).len) (AV.subs id (fun _ _ => .bad) env) (((Heap.sub id (fun _ _ => .bad) H).set id none).set id (some ((bs.app ie.size bx).sub id (fun _ _ => .bad))))
         else K (.ref H.length 0 ((bs.app ie.size bx).sub id (fun _ _ => .bad)).len) (AV.subs id (fun _ _ => .bad) env) (((Heap.sub id (fun _ _ => .bad) H).set id none) ++ [some ((bs.app ie.size bx).sub id (fun _ _ => .bad))])
        | .im (.sl _ 0 []) => K (.ref H.length 0 (bs.app ie.size bx).len) env (H ++ [some (bs.app ie.size bx)])
        | .im (.sl true _ _) => grdZ (bx.len ≠ 0) (K (.ref H.length 0 (bs.app ie.size bx).len) env (H ++ [some (bs.app ie.size bx)]))
        | _ => none))) none
      else none
     | _, _, _ => none
    | none => none
   | _ => none
   else none
  | _, _ => none
 | _ => none
theorem evAZ_spec {T : Tab} {nl : Nat} {env : Env} {H : Heap} {o : Oper} {K : AV → Env → Heap → Option β} (h : evAZ T nl env H o K = some r) : ∃ v env' H', evA T nl env H o = some (v, env', H') ∧ K v env' H' = some r := by
 unfold evAZ at h
 split at h
 ·
  rename_i args argTypes ho
  split at h
  ·
   rename_i t t' s x hats hargs
   split at h
   ·
    rename_i htt
    split at h
    ·
     rename_i e i1 i2 i3 hty
     split at h
     ·
      rename_i ie hie
      split at h
      ·
       rename_i z bs bx hz hbs hbx
       split at h
       ·
        rename_i hc
        cases hb : bx.es.all (fun e => e.cells.all okCell) with
        | false => rw [hb] at h; cases h
        | true =>
         rw [hb] at h
         obtain ⟨h1, h⟩ := grdZ_spec h
         obtain ⟨h2, h⟩ := grdZ_spec h
         have c1 : (ie.size != 0 && z.cells.length == ie.size && bx.es.all (fun e => e.cells.all okCell)) = true := by rw [hb, hc]; rfl
         have c2 : (decide ((bs.app ie.size bx).len * ie.bytes ≤ 140737488355328) && decide ((bs.app ie.size bx).len ≤ 140737488355328)) = true := by
          simp only [Bool.and_eq_true, decide_eq_true_eq]
          exact ⟨h1, h2⟩
         split at h
         ·
          split at h
          ·
           rename_i hn
           refine ⟨_, _, _, ?_, h⟩
           unfold evA
           rw [ho]
           simp only [hats, hargs, htt, if_true, hty, hie, hz, hbs, hbx]
           rw [if_pos c1, if_pos c2, if_pos hn]
          ·
           rename_i hn
           refine ⟨_, _, _, ?_, h⟩
           unfold evA
           rw [ho]
           simp only [hats, hargs, htt, if_true, hty, hie, hz, hbs, hbx]
           rw [if_pos c1, if_pos c2, if_neg hn]
         ·
          refine ⟨_, _, _, ?_, h⟩
          unfold evA
          rw [ho]
          simp only [hats, hargs, htt, if_true, hty, hie, hz, hbs, hbx]
          rw [if_pos c1, if_pos c2]
         ·
          rename_i hno
          obtain ⟨h3, h⟩ := grdZ_spec h
          have h3 : (bx.len != 0) = true := by simpa using h3
          refine ⟨_, _, _, ?_, h⟩
          unfold evA
          rw [ho]
          simp only [hats, hargs, htt, if_true, hty, hie, hz, hbs, hbx]
          rw [if_pos c1, if_pos c2]
          rw [if_pos h3]
         ·
          cases h
       ·
        cases h
      ·
       cases h
     ·
      cases h
    ·
     cases h
   ·
    cases h
  ·
   cases h
 ·
  cases h
end
end Go.AM.S
/- The abstract machine, part S1: single operations of a region, and calls, with an answer. -/
set_option linter.unusedVariables false
set_option linter.unusedSimpArgs false
namespace Go.AM.S
open Go.AM
/-! ### What calls hand back, told -/
inductive Hm where
 | any
 | int (k : IntKind)
 | bool
 | str
 | ref (id : Nat)
 | ptr (id j k : Nat)
 | mp (id : Nat)
 | sl (z : Nat)
abbrev Hm.T : Hm → Type
 | .any => D
 | .int _ => Int
 | .bool => Bool
 | .str => List UInt8
 | .ref _ => Nat
 | .ptr _ _ _ => Unit
 | .mp _ => Unit
 | .sl _ => List D
def Hm.enc : (s : Hm) → s.T → AV
 | .any, d => .im d
 | .int k, n => .im (.int k n)
 | .bool, b => .im (.bool b)
 | .str, s => .im (.str s)
 | .ref id, n => .ref id 0 n
 | .ptr id j k, _ => .ptr id j k
 | .mp id, _ => .mp id
 | .sl z, l => .im (.sl false z l)
def Hm.dec : (s : Hm) → AV → Option s.T
 | .any, v => match v with
  | .im d => some d
  | _ => none
 | .int k, v => match v with
  | .im (.int k' n) => if Nat.beq k'.ctorIdx k.ctorIdx then some n else none
  | _ => none
 | .bool, v => match v with
  | .im (.bool b) => some b
  | _ => none
 | .str, v => match v with
  | .im (.str s) => some s
  | _ => none
 | .ref id, v => match v with
  | .ref i o n => if Nat.beq i id && Nat.beq o 0 then some n else none
  | _ => none
 | .ptr id j k, v => match v with
  | .ptr a b c => if Nat.beq a id && Nat.beq b j && Nat.beq c k then some () else none
  | _ => none
 | .mp id, v => match v with
  | .mp a => if Nat.beq a id then some () else none
  | _ => none
 | .sl z, v => match v with
  | .im (.sl false y l) => if Nat.beq y z then some l else none
  | _ => none
theorem Hm.dec_eq {s : Hm} {v : AV} {x : s.T} (h : s.dec v = some x) : v = s.enc x := by
 cases s <;> simp only [Hm.dec] at h <;> (try split at h) <;> (try cases h) <;> (try rfl)
 ·
  split at h
  ·
   rename_i hk; cases h; rw [kind_eq hk]; rfl
  ·
   cases h
 ·
  split at h
  ·
   rename_i hk
   simp only [Bool.and_eq_true, Nat.beq_eq] at hk
   cases h; rw [hk.1, hk.2]; rfl
  ·
   cases h
 ·
  split at h
  ·
   rename_i hk
   simp only [Bool.and_eq_true, Nat.beq_eq] at hk
   rw [hk.1.1, hk.1.2, hk.2]; rfl
  ·
   cases h
 ·
  split at h
  ·
   rename_i hk
   rw [Nat.beq_eq] at hk
   rw [hk]; rfl
  ·
   cases h
 ·
  split at h
  ·
   rename_i hk
   rw [Nat.beq_eq] at hk
   cases h
   rw [hk]; rfl
  ·
   cases h
abbrev Hms.T : List Hm → Type
 | [] => Unit
 | s :: ss => s.T × Hms.T ss
def Hms.enc : (l : List Hm) → Hms.T l → List AV
 | [], _ => []
 | s :: ss, p => s.enc p.1 :: Hms.enc ss p.2
def Hms.dec : (l : List Hm) → List AV → Option (Hms.T l)
 | [], vs => match vs with
  | [] => some ()
  | _ :: _ => none
 | s :: ss, vs => match vs with
  | [] => none
  | v :: vs => match s.dec v, Hms.dec ss vs with
   | some x, some y => some (x, y)
   | _, _ => none
theorem Hms.dec_eq : ∀ {l : List Hm} {vs : List AV} {x : Hms.T l}, Hms.dec l vs = some x → vs = Hms.enc l x
 | [], vs, x, h => by
  unfold Hms.dec at h
  split at h
  ·
   rfl
  ·
   cases h
 | s :: ss, vs, x, h => by
  unfold Hms.dec at h
  split at h
  ·
   cases h
  ·
   split at h
   ·
    rename_i hx hy
    cases h
    rw [Hm.dec_eq hx, Hms.dec_eq hy]
    rfl
   ·
    cases h
def encR (l : List Hm) (x : Hms.T l) : AV := oneOf (Hms.enc l x)
def decR : (l : List Hm) → AV → Option (Hms.T l)
 | [], v => match v with
  | .tup vs => Hms.dec [] vs
  | _ => none
 | [s], v => match s.dec v with
  | some x => some (x, ())
  | none => none
 | s :: t :: ss, v => match v with
  | .tup vs => Hms.dec (s :: t :: ss) vs
  | _ => none
theorem decR_eq : ∀ {l : List Hm} {v : AV} {x : Hms.T l}, decR l v = some x → v = encR l x
 | [], v, x, h => by
  simp only [decR] at h
  split at h
  ·
   rw [Hms.dec_eq h]; rfl
  ·
   cases h
 | [s], v, x, h => by
  simp only [decR] at h
  split at h
  ·
   rename_i hx
   cases h
   exact Hm.dec_eq hx
  ·
   cases h
 | s :: t :: ss, v, x, h => by
  simp only [decR] at h
  split at h
  ·
   rw [Hms.dec_eq h]; rfl
  ·
   cases h
def encD (v : AV) : D := match v with
 | .im d => d
 | _ => .nilp
inductive Hb where
 | row (sz : Nat)
 | c (l : List Hm)
 | m (l : List Hm)
 | o
 | gone
abbrev Hb.T : Hb → Type
 | .row _ => List D
 | .c l => Hms.T l
 | .m l => Hms.T l
 | .o => List D
 | .gone => Unit
def elD : List AV → D
 | [v] => encD v
 | vs => .agg (vs.map encD)
def elV : List AV → AV
 | [v] => v
 | vs => .agg vs
def Hb.enc : (b : Hb) → b.T → Option Blk
 | .row sz, ds => some (.c sz ds)
 | .c l, x => some (.c l.length [elD (Hms.enc l x)])
 | .m l, x => some (.m l.length [elV (Hms.enc l x)])
 | .o, ds => some (.o ds)
 | .gone, _ => none
def unD : List Hm → D → Option (List AV)
 | [], _ => none
 | [_], d => some [.im d]
 | _ :: _ :: _, d => match d with
  | .agg cs => some (cs.map .im)
  | _ => none
def unV : List Hm → AV → Option (List AV)
 | [], _ => none
 | [_], v => some [v]
 | _ :: _ :: _, v => match v with
  | .agg cs => some cs
  | _ => none
def Hb.dec : (b : Hb) → Option Blk → Option b.T
 | .row sz, b => match b with
  | some (.c z ds) => if Nat.beq z sz then some ds else none
  | _ => none
 | .c l, b => match b with
  | some (.c z [d]) => match Nat.beq z l.length with
   | true => match unD l d with
    | some vs => Hms.dec l vs
    | none => none
   | false => none
  | _ => none
 | .m l, b => match b with
  | some (.m z [v]) => match Nat.beq z l.length with
   | true => match unV l v with
    | some vs => Hms.dec l vs
    | none => none
   | false => none
  | _ => none
 | .o, b => match b with
  | some (.o ds) => some ds
  | _ => none
 | .gone, b => match b with
  | none => some ()
  | some _ => none
theorem unD_eq : ∀ {l : List Hm} {d : D} {vs : List AV}, unD l d = some vs → ∀ {x : Hms.T l}, vs = Hms.enc l x → d = elD (Hms.enc l x)
 | [], d, vs, h, x, hx => by cases h
 | [s], d, vs, h, x, hx => by
  cases h
  rw [← hx]; rfl
 | s :: t :: ss, d, vs, h, x, hx => by
  rw [← hx]
  simp only [unD] at h
  split at h
  ·
   rename_i cs
   cases h
   match cs, hx with
   | [], hx => cases hx
   | [c], hx =>
    have := congrArg List.length hx
    simp [Hms.enc] at this
   | a :: b :: cs, _ =>
    show D.agg (a :: b :: cs) = .agg (((a :: b :: cs).map AV.im).map encD)
    rw [List.map_map]
    have : (encD ∘ AV.im) = id := rfl
    rw [this, List.map_id]
  ·
   cases h
theorem unV_eq : ∀ {l : List Hm} {v : AV} {vs : List AV}, unV l v = some vs → ∀ {x : Hms.T l}, vs = Hms.enc l x → v = elV (Hms.enc l x)
 | [], v, vs, h, x, hx => by cases h
 | [s], v, vs, h, x, hx => by
  cases h
  rw [← hx]; rfl
 | s :: t :: ss, v, vs, h, x, hx => by
  simp only [unV] at h
  split at h
  ·
   rename_i cs
   cases h
   rw [hx]; rfl
  ·
   cases h
theorem Hb.dec_eq {b : Hb} {x : Option Blk} {y : b.T} (h : b.dec x = some y) : x = b.enc y := by
 cases b <;> simp only [Hb.dec] at h
 ·
  split at h
  ·
   split at h
   ·
    rename_i hz
    rw [Nat.beq_eq] at hz
    cases h; rw [hz]; rfl
   ·
    cases h
  ·
   cases h
 ·
  split at h
  ·
   split at h
   ·
    rename_i hz
    rw [Nat.beq_eq] at hz
    split at h
    ·
     rename_i vs hv
     rw [unD_eq hv (Hms.dec_eq h), hz]; rfl
    ·
     cases h
   ·
    cases h
  ·
   cases h
 ·
  split at h
  ·
   split at h
   ·
    rename_i hz
    rw [Nat.beq_eq] at hz
    split at h
    ·
     rename_i vs hv
     rw [unV_eq hv (Hms.dec_eq h), hz]; rfl
    ·
     cases h
   ·
    cases h
  ·
   cases h
 ·
  split at h
  ·
   cases h; rfl
  ·
   cases h
 ·
  split at h
  ·
   rfl
  ·
   cases h
abbrev Hbs.T : List Hb → Type
 | [] => Unit
 | s :: ss => s.T × Hbs.T ss
def Hbs.enc : (l : List Hb) → Hbs.T l → Heap
 | [], _ => []
 | s :: ss, p => s.enc p.1 :: Hbs.enc ss p.2
def Hbs.dec : (l : List Hb) → Heap → Option (Hbs.T l)
 | [], vs => match vs with
  | [] => some ()
  | _ :: _ => none
 | s :: ss, vs => match vs with
  | [] => none
  | v :: vs => match s.dec v, Hbs.dec ss vs with
   | some x, some y => some (x, y)
   | _, _ => none
theorem Hbs.dec_eq : ∀ {l : List Hb} {vs : Heap} {x : Hbs.T l}, Hbs.dec l vs = some x → vs = Hbs.enc l x
 | [], vs, x, h => by
  unfold Hbs.dec at h
  split at h
  ·
   rfl
  ·
   cases h
 | s :: ss, vs, x, h => by
  unfold Hbs.dec at h
  split at h
  ·
   cases h
  ·
   split at h
   ·
    rename_i hx hy
    cases h
    rw [Hb.dec_eq hx, Hbs.dec_eq hy]
    rfl
   ·
    cases h
structure Sg where
 rs : List Hm := []
 hs : List Hb := []
abbrev Run (β : Type) := List AV → Heap → (AV → Heap → Option β) → Option β
structure Sgs (β : Type) where
 ty : TypeId → List Hm
 fn : FuncId → Option Sg
 inl : FuncId → Option (Run β)
def Sgs.of {β : Type} (s : Sgs β) (g : FuncId) (t : TypeId) : Sg := match s.fn g with
 | some x => x
 | none => ⟨s.ty t, []⟩
def pureS (cs : Oracle) (l : List Hm) (g : FuncId) (as : List AV) : Option (Hms.T l) := match cs g as [] with
 | some (res, H') => match snap H' 12 res with
  | some v => decR l v
  | none => none
 | none => none
def plainS (cs : Oracle) (l : List Hm) (g : FuncId) (as : List AV) : Option (Hms.T l) := match cs g as [] with
 | some (res, _) => if plainR res then decR l res else none
 | none => none
def lentS (cs : Oracle) (s : Sg) (g : FuncId) (as : List AV) (H : Heap) : Option (Hms.T s.rs × Hbs.T s.hs) := match cs g as H with
 | some (res, H') => match decR s.rs res, Hbs.dec s.hs H' with
  | some x, some y => some (x, y)
  | _, _ => none
 | none => none
section
variable {β : Type} {r : β}
def callPZ (cs : Oracle) (l : List Hm) (H : Heap) (g : FuncId) (as : List AV) (K : AV → Option β) : Option β :=
 if (AV.idss as).isEmpty then optZ (pureS cs l g as) fun x => K (encR l x)
 else match mapO (snap H 12) as with
  | some bs => optZ (plainS cs l g bs) fun x => K (encR l x)
  | none => none
theorem callPZ_spec {cs : Oracle} {l : List Hm} {H : Heap} {g : FuncId} {as : List AV} {K : AV → Option β} (h : callPZ cs l H g as K = some r) : ∃ v, callP cs H g as = some v ∧ K v = some r := by
 unfold callPZ at h
 unfold callP
 split at h
 ·
  rename_i hi
  rw [if_pos hi]
  obtain ⟨x, hx, h⟩ := optZ_spec h
  unfold pureS at hx
  split at hx
  ·
   rename_i res H' hc
   split at hx
   ·
    rename_i v hv
    have := decR_eq hx
    subst this
    exact ⟨_, by rw [hc]; exact hv, h⟩
   ·
    cases hx
  ·
   cases hx
 ·
  rename_i hi
  rw [if_neg hi]
  split at h
  ·
   rename_i bs hbs
   obtain ⟨x, hx, h⟩ := optZ_spec h
   unfold plainS at hx
   split at hx
   ·
    rename_i res H' hc
    split at hx
    ·
     rename_i hp
     have := decR_eq hx
     subst this
     exact ⟨_, by simp only [hbs, hc, hp, if_true], h⟩
    ·
     cases hx
   ·
    cases hx
  ·
   cases h
def Sgs.Ok (sg : Sgs β) (cs : Oracle) (r : β) : Prop := ∀ g run, sg.inl g = some run → ∀ as H K, run as H K = some r → ∃ v H2, cs g as H = some (v, H2) ∧ K v H2 = some r
theorem Sgs.ok_none {sg : Sgs β} (h : sg.inl = fun _ => none) (cs : Oracle) (r : β) : sg.Ok cs r := fun g run hr => by rw [h] at hr; cases hr
def callIZ (run : Run β) (env : Env) (H : Heap) (as : List AV) (K : AV → Env → Heap → Option β) : Option β :=
 run (AV.rens (posn (reach H 400 (AV.idss as) [])) as) (pickH H (reach H 400 (AV.idss as) [])) fun v H2 =>
  K (AV.ren (backF (reach H 400 (AV.idss as) []) H.length) v) (AV.rens (keepF (reach H 400 (AV.idss as) []) H2) env) (backH (reach H 400 (AV.idss as) []) H H2)
theorem callIZ_spec {cs : Oracle} {sg : Sgs β} {run : Run β} {env : Env} {H : Heap} {g : FuncId} {as : List AV} {K : AV → Env → Heap → Option β} (hI : sg.Ok cs r) (hg : sg.inl g = some run) (h : callIZ run env H as K = some r) :
  ∃ v env' H', callL cs env H g as = some (v, env', H') ∧ K v env' H' = some r := by
 unfold callIZ at h
 obtain ⟨v, H2, hc, h⟩ := hI g run hg _ _ _ h
 exact ⟨_, _, _, by unfold callL; rw [hc], h⟩
def callLZ (cs : Oracle) (s : Sg) (env : Env) (H : Heap) (g : FuncId) (as : List AV) (K : AV → Env → Heap → Option β) : Option β :=
 optZ (lentS cs s g (AV.rens (posn (reach H 400 (AV.idss as) [])) as) (pickH H (reach H 400 (AV.idss as) []))) fun x =>
  K (AV.ren (backF (reach H 400 (AV.idss as) []) H.length) (encR s.rs x.1)) (AV.rens (keepF (reach H 400 (AV.idss as) []) (Hbs.enc s.hs x.2)) env) (backH (reach H 400 (AV.idss as) []) H (Hbs.enc s.hs x.2))
theorem callLZ_spec {cs : Oracle} {s : Sg} {env : Env} {H : Heap} {g : FuncId} {as : List AV} {K : AV → Env → Heap → Option β} (h : callLZ cs s env H g as K = some r) :
  ∃ v env' H', callL cs env H g as = some (v, env', H') ∧ K v env' H' = some r := by
 unfold callLZ at h
 obtain ⟨x, hx, h⟩ := optZ_spec h
 unfold lentS at hx
 split at hx
 ·
  rename_i res H' hc
  split at hx
  ·
   rename_i a b ha hb
   cases hx
   have := decR_eq ha
   subst this
   have := Hbs.dec_eq hb
   subst this
   exact ⟨_, _, _, by unfold callL; rw [hc], h⟩
  ·
   cases hx
 ·
  cases hx
def restZ (X : Cx) (env : Env) (H : Heap) (id : Nat) (o : Oper) (K : AV → Option Blk → Option β) : Option β := match ev1 X.T X.own env o with
 | some ans => castVZ (X.cast o) (ans.av id) fun v => K v ans.blk
 | none => match ev0 X.T env H o with
  | some v => castVZ (X.cast o) v fun v => K v none
  | none => match o.op with
   | .call { callee := .value _, .. } => none
   | _ => match evX X.T env H id o with
    | some (v, b) => castVZ (X.cast o) v fun v => K v b
    | none => none
def evPZ (X : Cx) (env : Env) (H : Heap) (id : Nat) (o : Oper) (K : AV → Option Blk → Option β) : Option β := match o.op with
 | .makeSlice t l c => makeSliceZ X.T env id t l c fun v b => castVZ (X.cast o) v fun v => K v b
 | .load t a => loadZ X.T (X.cast o) env H t a fun v => K v none
 | .pick c a b => selZ env c a b fun v => castVZ (X.cast o) v fun v => K v none
 | .binOp op t x y _ => binOpZ X.T env H o op t x y fun v => castVZ (X.cast o) v fun v => K v none
 | .indexAddr t x i => indexAddrZ X.T env H t x i fun v => castVZ (X.cast o) v fun v => K v none
 | .index t x i => indexZ X.T env H o t x i fun v => castVZ (X.cast o) v fun v => K v none
 | .slice t x lo hi none => sliceZ X.T env H t x lo hi fun v => castVZ (X.cast o) v fun v => K v none
 | _ => restZ X env H id o K
theorem evPZ_spec {X : Cx} {env : Env} {H : Heap} {id : Nat} {o : Oper} {K : AV → Option Blk → Option β} (h : evPZ X env H id o K = some r) : ∃ v b, evP X env H id o = some (v, b) ∧ K v b = some r := by
 unfold evPZ at h
 split at h
 ·
  rename_i t l c ho
  obtain ⟨ans, ha, h⟩ := makeSliceZ_spec (own := X.own) ho h
  obtain ⟨v, hv, h⟩ := castVZ_spec h
  exact ⟨_, _, by unfold evP evQ; simp [*], h⟩
 ·
  rename_i t a ho
  obtain ⟨v, v', h0, hc, h⟩ := loadZ_spec ho h
  exact ⟨_, _, evP_of0 (by unfold ev1; rw [ho]) h0 hc, h⟩
 ·
  rename_i c a b ho
  obtain ⟨v, h0, h⟩ := selZ_spec (T := X.T) (H := H) ho h
  obtain ⟨v', hc, h⟩ := castVZ_spec h
  exact ⟨_, _, evP_of0 (by unfold ev1; rw [ho]) h0 hc, h⟩
 ·
  rename_i op t x y u ho
  obtain ⟨v, h0, h⟩ := binOpZ_spec ho h
  obtain ⟨v', hc, h⟩ := castVZ_spec h
  exact ⟨_, _, evP_of0 (by unfold ev1; rw [ho]) h0 hc, h⟩
 ·
  rename_i t x i ho
  obtain ⟨v, h0, h⟩ := indexAddrZ_spec ho h
  obtain ⟨v', hc, h⟩ := castVZ_spec h
  exact ⟨_, _, evP_of0 (by unfold ev1; rw [ho]) h0 hc, h⟩
 ·
  rename_i t x i ho
  obtain ⟨v, h0, h⟩ := indexZ_spec ho h
  obtain ⟨v', hc, h⟩ := castVZ_spec h
  exact ⟨_, _, evP_of0 (by unfold ev1; rw [ho]) h0 hc, h⟩
 ·
  rename_i t x lo hi ho
  obtain ⟨v, h0, h⟩ := sliceZ_spec ho h
  obtain ⟨v', hc, h⟩ := castVZ_spec h
  exact ⟨_, _, evP_of0 (by unfold ev1; rw [ho]) h0 hc, h⟩
 ·
  unfold restZ at h
  split at h
  ·
   rename_i ans ha
   obtain ⟨v, hv, h⟩ := castVZ_spec h
   exact ⟨_, _, by unfold evP evQ; simp [*], h⟩
  ·
   rename_i h1
   split at h
   ·
    rename_i v h0
    obtain ⟨v', hc, h⟩ := castVZ_spec h
    exact ⟨_, _, evP_of0 h1 h0 hc, h⟩
   ·
    rename_i h0
    split at h
    ·
     cases h
    ·
     rename_i hno
     have ec : evC X.call env H o = none := by
      unfold evC
      split
      ·
       rename_i f args ats ho; exact absurd ho (hno _ _ _)
      ·
       rfl
     split at h
     ·
      rename_i v b hx
      obtain ⟨v', hc, h⟩ := castVZ_spec h
      exact ⟨_, _, by unfold evP evQ; simp only [h1, h0, ec, hx, hc], h⟩
     ·
      cases h
noncomputable def putZ (env : Env) (d : Option Tmp) (v : AV) (k : Env → Option β) : Option β := match d with
 | some d => setF env d v k
 | none => k env
theorem putZ_spec {env : Env} {d : Option Tmp} {v : AV} {k : Env → Option β} (h : putZ env d v k = some r) : k (putE env d v) = some r := by
 cases d with
 | none => exact h
 | some d => exact (setF_eq env d v k).symm.trans h
noncomputable def guardZ (ops : Array Oper) (env : Env) (o : Oper) (k1 k0 : Env → Option β) : Option β := match o.guard with
 | none => k1 env
 | some (j, want) => match getL ops.toList j with
  | some oj => match oj.dst with
   | some t => match getL env t with
    | some (.im (.bool b)) => cond b (setF env t (.im (.bool true)) fun e => cond want (k1 e) (k0 e)) (setF env t (.im (.bool false)) fun e => cond want (k0 e) (k1 e))
    | some (.tup _) => k0 env
    | _ => none
   | none => none
  | none => none
theorem guardZ_spec {ops : Array Oper} {env : Env} {o : Oper} {k1 k0 : Env → Option β} (h : guardZ ops env o k1 k0 = some r) : (guardOf ops env o = some true ∧ k1 env = some r) ∨ (guardOf ops env o = some false ∧ k0 env = some r) := by
 unfold guardZ at h
 simp only [getL_eq, Array.getElem?_toList] at h
 unfold guardOf
 split at h
 ·
  rename_i hg
  exact .inl ⟨by rw [hg], h⟩
 ·
  rename_i j want hg
  rw [hg]
  simp only
  split at h
  ·
   rename_i oj hj
   split at h
   ·
    rename_i t ht
    split at h
    ·
     rename_i b hb
     cases b with
     | true =>
      have h := (setF_eq env t _ _).symm.trans h
      rw [set_same hb] at h
      cases want with
      | true => exact .inl ⟨by simp [hj, ht, hb], h⟩
      | false => exact .inr ⟨by simp [hj, ht, hb], h⟩
     | false =>
      have h := (setF_eq env t _ _).symm.trans h
      rw [set_same hb] at h
      cases want with
      | true => exact .inr ⟨by simp [hj, ht, hb], h⟩
      | false => exact .inl ⟨by simp [hj, ht, hb], h⟩
    ·
     rename_i vs hb
     exact .inr ⟨by simp [hj, ht, hb], h⟩
    ·
     cases h
   ·
    cases h
  ·
   cases h
/-! ### A step, and a call in it, by what is told of whom blocks are lent to -/
def isCall (o : Oper) : Bool := match o.op with
 | .call { callee := .value _, .. } => true
 | _ => false
def callOf (env : Env) (o : Oper) : Option (FuncId × List AV) := match o.op with
 | .call { callee := .value f, args, .. } => match opd env f, opds env args.toList with
  | some fv, some as => match fnOf fv with
   | some (g, a, c) => some (g, a ++ as ++ c)
   | none => none
  | _, _ => none
 | _ => none
def stepM (X : Cx) (nl : Nat) (ops : Array Oper) (env : Env) (H : Heap) (o : Oper) : Option (Env × Heap) :=
 match guardOf ops env o with
 | some true => match isCall o with
  | true => match callOf env o with
   | some (g, as) => match X.lend g || X.keep (o.dst.getD 0) with
    | true => match callL X.call env H g as with
     | some (v, env', H') => match castV (X.cast o) v with
      | some v' => some (putE env' o.dst v', H')
      | none => none
     | none => none
    | false => match callP X.call H g as with
     | some v => match castV (X.cast o) v with
      | some v' => some (putE env o.dst v', H)
      | none => none
     | none => none
   | none => none
  | false => stepO { X with call := fun _ _ _ => none } nl ops env H o
 | some false => some (putE env o.dst (.tup []), H)
 | none => none
def stepPM (X : Cx) (ops : Array Oper) (env : Env) (H : Heap) (o : Oper) : Option (Env × Heap) :=
 match guardOf ops env o with
 | some true => match isCall o with
  | true => match callOf env o with
   | some (g, as) => match callP X.call H g as with
     | some v => match castV (X.cast o) v with
      | some v' => some (putE env o.dst v', H)
      | none => none
     | none => none
   | none => none
  | false => stepP { X with call := fun _ _ _ => none } ops env H o
 | some false => some (putE env o.dst (.tup []), H)
 | none => none
theorem isCall_op {o : Oper} (h : isCall o = true) : ∃ f args ats, o.op = .call { callee := .value f, args := args, argTypes := ats } := by
 unfold isCall at h
 split at h
 ·
  rename_i f args ats ho; exact ⟨_, _, _, ho⟩
 ·
  cases h
theorem notCall_op {o : Oper} (h : isCall o = false) : ∀ f args ats, o.op ≠ .call { callee := .value f, args := args, argTypes := ats } := by
 intro f args ats ho
 unfold isCall at h
 rw [ho] at h
 cases h
theorem evC_no {call : Oracle} {env : Env} {H : Heap} {o : Oper} (h : isCall o = false) : evC call env H o = none := by
 unfold evC
 split
 ·
  rename_i f args ats ho; exact absurd ho (notCall_op h _ _ _)
 ·
  rfl
theorem evL_no {X : Cx} {env : Env} {H : Heap} {o : Oper} (h : isCall o = false) : evL X env H o = none := by
 unfold evL
 split
 ·
  rename_i f args ats ho; exact absurd ho (notCall_op h _ _ _)
 ·
  rfl
theorem evP_no {X : Cx} {c : Oracle} {env : Env} {H : Heap} {id : Nat} {o : Oper} (h : isCall o = false) : evP { X with call := c } env H id o = evP X env H id o := by
 unfold evP evQ
 simp only [evC_no h]
theorem callOf_evL {X : Cx} {env : Env} {H : Heap} {o : Oper} {g : FuncId} {as : List AV} (h : callOf env o = some (g, as)) :
  evL X env H o = if X.lend g || X.keep (o.dst.getD 0) then callL X.call env H g as else none := by
 unfold callOf at h
 unfold evL
 split at h
 ·
  rename_i f args ats ho
  rw [ho]
  split at h
  ·
   rename_i fv as' hf has
   split at h
   ·
    rename_i g' a c hfn
    cases h
    simp only [hf, has, hfn]
   ·
    cases h
  ·
   cases h
 ·
  cases h
theorem callOf_evP {X : Cx} {env : Env} {H : Heap} {id : Nat} {o : Oper} {g : FuncId} {as : List AV} (h : callOf env o = some (g, as)) {v v' : AV} (hv : callP X.call H g as = some v) (hc : castV (X.cast o) v = some v') :
  evP X env H id o = some (v', none) := by
 unfold callOf at h
 split at h
 ·
  rename_i f args ats ho
  split at h
  ·
   rename_i fv as' hf has
   split at h
   ·
    rename_i g' a c hfn
    cases h
    have e1 : ev1 X.T X.own env o = none := by unfold ev1; rw [ho]
    have e0 : ev0 X.T env H o = none := by unfold ev0; rw [ho]
    have ec : evC X.call env H o = some v := by unfold evC; rw [ho]; simp only [hf, has, hfn, hv]
    unfold evP evQ
    simp only [e1, e0, ec, hc]
   ·
    cases h
  ·
   cases h
 ·
  cases h
theorem stepM_stepO {X : Cx} {nl : Nat} {ops : Array Oper} {env : Env} {H : Heap} {o : Oper} {s : Env × Heap} (h : stepM X nl ops env H o = some s) : stepO X nl ops env H o = some s := by
 unfold stepM at h
 split at h
 ·
  rename_i hg
  split at h
  ·
   rename_i hcl
   split at h
   ·
    rename_i g as hco
    unfold stepO
    simp only [hg, callOf_evL hco]
    split at h
    ·
     rename_i hl
     rw [if_pos hl]
     split at h
     ·
      rename_i v env' H' hv
      simp only [hv]
      exact h
     ·
      cases h
    ·
     rename_i hl
     rw [if_neg (by rw [hl]; decide)]
     split at h
     ·
      rename_i v hv
      split at h
      ·
       rename_i v' hc
       cases h
       simp only [callOf_evP hco hv hc]
      ·
       cases h
     ·
      cases h
   ·
    cases h
  ·
   rename_i hcl
   unfold stepO at h ⊢
   simp only [hg, evL_no hcl, evP_no hcl] at h ⊢
   exact h
 ·
  rename_i hg
  unfold stepO
  simp only [hg]
  exact h
 ·
  cases h
theorem stepPM_stepP {X : Cx} {ops : Array Oper} {env : Env} {H : Heap} {o : Oper} {s : Env × Heap} (h : stepPM X ops env H o = some s) : stepP X ops env H o = some s := by
 unfold stepPM at h
 split at h
 ·
  rename_i hg
  split at h
  ·
   rename_i hcl
   split at h
   ·
    rename_i g as hco
    unfold stepP
    simp only [hg]
    split at h
    ·
     rename_i v hv
     split at h
     ·
      rename_i v' hc
      cases h
      simp only [callOf_evP hco hv hc]
     ·
      cases h
    ·
     cases h
   ·
    cases h
  ·
   rename_i hcl
   unfold stepP at h ⊢
   simp only [hg, evP_no hcl] at h ⊢
   exact h
 ·
  rename_i hg
  unfold stepP
  simp only [hg]
  exact h
 ·
  cases h
def LeC (c c' : Oracle) : Prop := ∀ g as H r, c g as H = some r → c' g as H = some r
theorem callL_le {c c' : Oracle} (h : LeC c c') {env : Env} {H : Heap} {g : FuncId} {as : List AV} {r : AV × Env × Heap} (hr : callL c env H g as = some r) : callL c' env H g as = some r := by
 unfold callL at hr ⊢
 split at hr
 ·
  rename_i hc
  rw [h _ _ _ _ hc]
  exact hr
 ·
  cases hr
theorem callP_le {c c' : Oracle} (h : LeC c c') {H : Heap} {g : FuncId} {as : List AV} {r : AV} (hr : callP c H g as = some r) : callP c' H g as = some r := by
 unfold callP at hr ⊢
 split at hr
 ·
  rename_i hi
  rw [if_pos hi]
  split at hr
  ·
   rename_i hc
   rw [h _ _ _ _ hc]
   exact hr
  ·
   cases hr
 ·
  rename_i hi
  rw [if_neg hi]
  split at hr
  ·
   rename_i bs hbs
   split at hr
   ·
    rename_i hc
    simp only [h _ _ _ _ hc]
    exact hr
   ·
    cases hr
  ·
   cases hr
theorem stepM_le {X : Cx} {c c' : Oracle} (h : LeC c c') {nl : Nat} {ops : Array Oper} {env : Env} {H : Heap} {o : Oper} {s : Env × Heap} (hs : stepM { X with call := c } nl ops env H o = some s) : stepM { X with call := c' } nl ops env H o = some s := by
 unfold stepM at hs ⊢
 split at hs
 ·
  rename_i hg
  split at hs
  ·
   rename_i hcl
   split at hs
   ·
    rename_i g as hco
    split at hs
    ·
     rename_i hl
     split at hs
     ·
      rename_i hv
      simp only at hl
      simp only [hl, callL_le h hv]
      exact hs
     ·
      cases hs
    ·
     rename_i hl
     split at hs
     ·
      rename_i hv
      simp only at hl
      simp only [hl, callP_le h hv]
      exact hs
     ·
      cases hs
   ·
    cases hs
  ·
   exact hs
 ·
  exact hs
 ·
  cases hs
theorem stepPM_le {X : Cx} {c c' : Oracle} (h : LeC c c') {ops : Array Oper} {env : Env} {H : Heap} {o : Oper} {s : Env × Heap} (hs : stepPM { X with call := c } ops env H o = some s) : stepPM { X with call := c' } ops env H o = some s := by
 unfold stepPM at hs ⊢
 split at hs
 ·
  rename_i hg
  split at hs
  ·
   rename_i hcl
   split at hs
   ·
    rename_i g as hco
    split at hs
    ·
     rename_i hv
     simp only [callP_le h hv]
     exact hs
    ·
     cases hs
   ·
    cases hs
  ·
   exact hs
 ·
  exact hs
 ·
  cases hs
/-! ### The same with what comes next handed in -/
noncomputable def stepPZ (X : Cx) (sg : Sgs β) (ops : Array Oper) (env : Env) (H : Heap) (o : Oper) (K : Env → Heap → Option β) : Option β :=
 guardZ ops env o (fun env => match o.op with
  | .call { callee := .value f, args, .. } => match opd env f, opds env args.toList with
   | some fv, some as => match fnOf fv with
    | some (g, a, c) => callPZ X.call (sg.ty o.type) H g (a ++ as ++ c) fun v => castVZ (X.cast o) v fun v => putZ env o.dst v fun e => K e H
    | none => none
   | _, _ => none
  | _ => evPZ X env H H.length o fun v b => putZ env o.dst v fun e => allF (extH H b) fun h => K e h) (fun env => putZ env o.dst (.tup []) fun e => K e H)
theorem stepPZ_spec {X : Cx} {sg : Sgs β} {ops : Array Oper} {env : Env} {H : Heap} {o : Oper} {K : Env → Heap → Option β} (h : stepPZ X sg ops env H o K = some r) : ∃ env' H', stepPM X ops env H o = some (env', H') ∧ K env' H' = some r := by
 unfold stepPZ at h
 unfold stepPM
 rcases guardZ_spec h with ⟨hg, h⟩ | ⟨hg, h⟩
 ·
  simp only [hg]
  split at h
  ·
   rename_i f args ats ho
   have hcl : isCall o = true := by unfold isCall; rw [ho]
   split at h
   ·
    rename_i fv as hf has
    split at h
    ·
     rename_i g a c hfn
     have hco : callOf env o = some (g, a ++ as ++ c) := by unfold callOf; rw [ho]; simp only [hf, has, hfn]
     obtain ⟨v, hv, h⟩ := callPZ_spec h
     obtain ⟨v', hc, h⟩ := castVZ_spec h
     simp only [hcl, hco, hv, hc]
     exact ⟨_, _, rfl, putZ_spec (k := fun e => K e H) h⟩
    ·
     cases h
   ·
    cases h
  ·
   rename_i hno
   have hcl : isCall o = false := by
    unfold isCall
    split
    ·
     rename_i f args ats ho; exact absurd ho (hno _ _ _)
    ·
     rfl
   simp only [hcl]
   obtain ⟨v, b, hv, h⟩ := evPZ_spec h
   have h := putZ_spec (k := fun e => allF (extH H b) fun h => K e h) h
   rw [allF_eq] at h
   unfold stepP
   simp only [hg, evP_no hcl, hv]
   cases b with
   | none => exact ⟨_, _, rfl, h⟩
   | some b => exact ⟨_, _, rfl, h⟩
 ·
  simp only [hg]
  exact ⟨_, _, rfl, putZ_spec (k := fun e => K e H) h⟩
noncomputable def stepMZ (X : Cx) (sg : Sgs β) (nl : Nat) (ops : Array Oper) (env : Env) (H : Heap) (o : Oper) (K : Env → Heap → Option β) : Option β :=
 guardZ ops env o (fun env => match o.op with
  | .store _ _ _ => evSZ X.T env H o fun H' => allF H' fun h => putZ env o.dst (.tup []) fun e => K e h
  | .call { callee := .builtin .append, .. } => evAZ X.T nl env H o fun v env' H' => allF env' fun env' => allF H' fun H' => putZ env' o.dst v fun e => K e H'
  | .call { callee := .value f, args, .. } => match opd env f, opds env args.toList with
   | some fv, some as => match fnOf fv with
    | some (g, a, c) => match X.lend g || X.keep (o.dst.getD 0) with
     | true => match sg.inl g with
      | none => callLZ X.call (sg.of g o.type) env H g (a ++ as ++ c) fun v env' H' => castVZ (X.cast o) v fun v => allF env' fun env' => allF H' fun H' => putZ env' o.dst v fun e => K e H'
      | some run => callIZ run env H (a ++ as ++ c) fun v env' H' => castVZ (X.cast o) v fun v => allF env' fun env' => allF H' fun H' => putZ env' o.dst v fun e => K e H'
     | false => callPZ X.call (sg.ty o.type) H g (a ++ as ++ c) fun v => castVZ (X.cast o) v fun v => putZ env o.dst v fun e => K e H
    | none => none
   | _, _ => none
  | _ => evPZ X env H H.length o fun v b => putZ env o.dst v fun e => allF (extH H b) fun h => K e h) (fun env => putZ env o.dst (.tup []) fun e => K e H)
theorem stepMZ_spec {X : Cx} {sg : Sgs β} (hI : sg.Ok X.call r) {nl : Nat} {ops : Array Oper} {env : Env} {H : Heap} {o : Oper} {K : Env → Heap → Option β} (h : stepMZ X sg nl ops env H o K = some r) : ∃ env' H', stepM X nl ops env H o = some (env', H') ∧ K env' H' = some r := by
 unfold stepMZ at h
 unfold stepM
 rcases guardZ_spec h with ⟨hg, h⟩ | ⟨hg, h⟩
 ·
  simp only [hg]
  split at h
  ·
   rename_i t x y ho
   have hcl : isCall o = false := by unfold isCall; rw [ho]
   simp only [hcl]
   obtain ⟨H', hs, h⟩ := evSZ_spec h
   rw [allF_eq] at h
   have ep : evP { X with call := fun _ _ _ => none } env H H.length o = none := by
    unfold evP evQ
    have e1 : ev1 X.T X.own env o = none := by unfold ev1; rw [ho]
    have e0 : ev0 X.T env H o = none := by unfold ev0; rw [ho]
    have ex : evX X.T env H H.length o = none := by unfold evX; rw [ho]
    simp only [e1, e0, evC_no hcl, ex]
   unfold stepO
   simp only [hg, evL_no hcl, ep, hs]
   exact ⟨_, _, rfl, putZ_spec (k := fun e => K e H') h⟩
  ·
   rename_i args ats ho
   have hcl : isCall o = false := by unfold isCall; rw [ho]
   simp only [hcl]
   obtain ⟨v, env', H', ha, h⟩ := evAZ_spec h
   simp only [allF_eq] at h
   have ep : evP { X with call := fun _ _ _ => none } env H H.length o = none := by
    unfold evP evQ
    have e1 : ev1 X.T X.own env o = none := by unfold ev1; rw [ho]
    have e0 : ev0 X.T env H o = none := by unfold ev0; rw [ho]
    have ex : evX X.T env H H.length o = none := by unfold evX; rw [ho]
    simp only [e1, e0, evC_no hcl, ex]
   have es : evS X.T env H o = none := by unfold evS; rw [ho]
   unfold stepO
   simp only [hg, evL_no hcl, ep, es, ha]
   exact ⟨_, _, rfl, putZ_spec (k := fun e => K e H') h⟩
  ·
   rename_i f args ats ho
   have hcl : isCall o = true := by unfold isCall; rw [ho]
   split at h
   ·
    rename_i fv as hf has
    split at h
    ·
     rename_i g a c hfn
     have hco : callOf env o = some (g, a ++ as ++ c) := by unfold callOf; rw [ho]; simp only [hf, has, hfn]
     simp only [hcl, hco]
     split at h
     ·
      rename_i hl
      split at h
      ·
       obtain ⟨v, env', H', hv, h⟩ := callLZ_spec h
       obtain ⟨v', hc, h⟩ := castVZ_spec h
       simp only [allF_eq] at h
       simp only [hl, hv, hc]
       exact ⟨_, _, rfl, putZ_spec (k := fun e => K e H') h⟩
      ·
       rename_i run hrun
       obtain ⟨v, env', H', hv, h⟩ := callIZ_spec hI hrun h
       obtain ⟨v', hc, h⟩ := castVZ_spec h
       simp only [allF_eq] at h
       simp only [hl, hv, hc]
       exact ⟨_, _, rfl, putZ_spec (k := fun e => K e H') h⟩
     ·
      rename_i hl
      obtain ⟨v, hv, h⟩ := callPZ_spec h
      obtain ⟨v', hc, h⟩ := castVZ_spec h
      simp only [hl, hv, hc]
      exact ⟨_, _, rfl, putZ_spec (k := fun e => K e H) h⟩
    ·
     cases h
   ·
    cases h
  ·
   rename_i hno _ hno3
   have hcl : isCall o = false := by
    unfold isCall
    split
    ·
     rename_i f args ats ho; exact absurd ho (hno3 _ _ _)
    ·
     rfl
   simp only [hcl]
   obtain ⟨v, b, hv, h⟩ := evPZ_spec h
   have h := putZ_spec (k := fun e => allF (extH H b) fun h => K e h) h
   rw [allF_eq] at h
   unfold stepO
   simp only [hg, evL_no hcl, evP_no hcl, hv]
   cases b with
   | none => exact ⟨_, _, rfl, h⟩
   | some b => exact ⟨_, _, rfl, h⟩
 ·
  simp only [hg]
  exact ⟨_, _, rfl, putZ_spec (k := fun e => K e H) h⟩
end
end Go.AM.S
/- The abstract machine, part S5: data in the one form: no spare room told, empty slices of their elements' size, all the way down, by their types. -/
set_option linter.unusedVariables false
set_option linter.unusedSimpArgs false
namespace Go.AM.S
open Go.AM
def cellsT (T : Tab) : Nat → TypeId → List TypeId
 | 0, _ => []
 | n + 1, t => match T.ty t with
  | some i => match i.desc with
   | .struct fs => fs.toList.flatMap fun f => cellsT T n f.type
   | .array k e => repL k (cellsT T n e)
   | _ => [t]
  | none => []
def elemT (T : Tab) (t : TypeId) : Option (TypeId × Nat) := match T.ty t with
 | some ⟨.slice e, _, _, _⟩ => match T.ty e with
  | some ie => some (e, ie.size)
  | none => none
 | _ => none
mutual
def deepD (T : Tab) (t : TypeId) : D → D
 | .sl s z es => match elemT T t with
  | some (e, n) => match es with
   | [] => if n = 0 then .sl s z [] else .sl false n []
   | d :: ds => if z = n then .sl false z (deepD T e d :: deepDs T e ds) else .sl s z (d :: ds)
  | none => .sl s z es
 | .agg cs => .agg (deepCs T (cellsT T 8 t) cs)
 | d => d
def deepDs (T : Tab) (e : TypeId) : List D → List D
 | [] => []
 | d :: ds => deepD T e d :: deepDs T e ds
def deepCs (T : Tab) : List TypeId → List D → List D
 | _, [] => []
 | [], d :: ds => d :: ds
 | t :: ts, d :: ds => deepD T t d :: deepCs T ts ds
end
theorem deepCs_len (T : Tab) : ∀ (ts : List TypeId) (ds : List D), (deepCs T ts ds).length = ds.length
 | _, [] => by simp [deepCs]
 | [], d :: ds => by simp [deepCs]
 | t :: ts, d :: ds => by simp [deepCs, deepCs_len T ts ds]
theorem deepDs_len (T : Tab) (e : TypeId) : ∀ (ds : List D), (deepDs T e ds).length = ds.length
 | [] => by simp [deepDs]
 | d :: ds => by simp [deepDs, deepDs_len T e ds]
theorem deepD_cells (T : Tab) (t : TypeId) (d : D) : (deepD T t d).cells.length = d.cells.length := by
 cases d with
 | sl s z es =>
  simp only [deepD]
  split
  ·
   split
   ·
    split <;> rfl
   ·
    split <;> rfl
  ·
   rfl
 | agg cs => simp only [deepD, D.cells, deepCs_len]
 | _ => simp only [deepD]
section
variable {I : Nat → Option (Array Value)} {κ : Nat → Option Loc}
theorem rds_split {a b : List D} {vs : List Value} (h : RDs I (a ++ b) vs) : ∃ v1 v2, vs = v1 ++ v2 ∧ RDs I a v1 ∧ RDs I b v2 := by
 induction a generalizing vs with
 | nil => exact ⟨[], vs, rfl, .nil, h⟩
 | cons x a ih =>
  cases h with
  | cons _ _ v vs h hs =>
   obtain ⟨v1, v2, rfl, h1, h2⟩ := ih hs
   exact ⟨v :: v1, v2, rfl, .cons _ _ _ _ h h1, h2⟩
mutual
theorem deepD_rd {T : Tab} : ∀ {t : TypeId} {d : D} {v : Value}, RD I d v → RD I (deepD T t d) v
 | t, .sl s z es, v, h => by
  simp only [deepD]
  split
  ·
   rename_i e n he
   match es, h with
   | [], h =>
    show RD I (if n = 0 then D.sl s z [] else D.sl false n []) v
    by_cases hn : n = 0
    ·
     rw [if_pos hn]; exact h
    ·
     rw [if_neg hn]
     cases h with
     | slnil _ _ => exact .slnil _ _
     | slz _ _ a hz => exact .slz _ _ a (by omega)
     | sle _ A m hz => exact .sle _ A m (by omega)
     | sl _ _ _ b off cap c vs h0 hI hv hc hsz ht hle => exact .sle _ _ _ (by omega)
   | d :: ds, h =>
    show RD I (if z = n then D.sl false z (deepD T e d :: deepDs T e ds) else D.sl s z (d :: ds)) v
    by_cases hz : z = n
    ·
     rw [if_pos hz]
     cases h with
     | sl _ _ _ b off cap c vs h0 hI hv hc hsz ht hle =>
      have h2 : RDs I ((deepD T e d :: deepDs T e ds).flatMap D.cells) vs := by
       simp only [List.flatMap_cons] at hv ⊢
       obtain ⟨v1, v2, rfl, a1, a2⟩ := rds_split hv
       exact RDs.append (deepCells_rd a1) (deepDs_rd a2)
      have hlen : (deepD T e d :: deepDs T e ds).length = (d :: ds).length := by simp [deepDs_len]
      have := RD.sl (I := I) false z (deepD T e d :: deepDs T e ds) b off cap c vs h0 hI h2 hc (fun x hx => by
       rcases List.mem_cons.1 hx with rfl | hx
       ·
        rw [deepD_cells]; exact hsz d (by simp)
       ·
        exact deepDs_sz (fun y hy => hsz y (List.mem_cons_of_mem _ hy)) x hx) (fun hf => by cases hf) (by rw [hlen]; exact hle)
      rw [hlen] at this
      exact this
    ·
     rw [if_neg hz]; exact h
  ·
   exact h
 | t, .agg cs, v, h => by
  simp only [deepD]
  cases h with
  | agg _ vs h => exact .agg _ _ (deepCs_rd h)
 | t, .int _ _, v, h => h
 | t, .bool _, v, h => h
 | t, .str _, v, h => h
 | t, .nilp, v, h => h
 | t, .nili, v, h => h
 | t, .nilf, v, h => h
 | t, .nilm, v, h => h
 | t, .fn _ _ _, v, h => h
 | t, .ifc _ _, v, h => h
theorem deepCells_rd {T : Tab} : ∀ {t : TypeId} {d : D} {vs : List Value}, RDs I d.cells vs → RDs I (deepD T t d).cells vs
 | t, .agg cs, vs, h => by
  simp only [deepD, D.cells] at h ⊢
  exact deepCs_rd h
 | t, .sl s z es, vs, h => by
  have hc : (deepD T t (.sl s z es)).cells = [deepD T t (.sl s z es)] := by
   simp only [deepD]
   split
   ·
    split
    ·
     split <;> rfl
    ·
     split <;> rfl
   ·
    rfl
  rw [hc]
  cases h with
  | cons _ _ v _ h hs =>
   cases hs
   exact .cons _ _ _ _ (deepD_rd h) .nil
 | t, .int _ _, vs, h => h
 | t, .bool _, vs, h => h
 | t, .str _, vs, h => h
 | t, .nilp, vs, h => h
 | t, .nili, vs, h => h
 | t, .nilf, vs, h => h
 | t, .nilm, vs, h => h
 | t, .fn _ _ _, vs, h => h
 | t, .ifc _ _, vs, h => h
theorem deepDs_rd {T : Tab} {e : TypeId} : ∀ {ds : List D} {vs : List Value}, RDs I (ds.flatMap D.cells) vs → RDs I ((deepDs T e ds).flatMap D.cells) vs
 | [], vs, h => by simpa [deepDs] using h
 | d :: ds, vs, h => by
  simp only [deepDs, List.flatMap_cons] at h ⊢
  obtain ⟨v1, v2, rfl, a1, a2⟩ := rds_split h
  exact RDs.append (deepCells_rd a1) (deepDs_rd a2)
theorem deepCs_rd {T : Tab} : ∀ {ts : List TypeId} {ds : List D} {vs : List Value}, RDs I ds vs → RDs I (deepCs T ts ds) vs
 | _, [], vs, h => by simpa [deepCs] using h
 | [], d :: ds, vs, h => by simpa [deepCs] using h
 | t :: ts, d :: ds, vs, h => by
  simp only [deepCs]
  cases h with
  | cons _ _ v vs h hs => exact .cons _ _ _ _ (deepD_rd h) (deepCs_rd hs)
theorem deepDs_sz {T : Tab} {e : TypeId} {n : Nat} : ∀ {ds : List D}, (∀ d ∈ ds, d.cells.length = n) → ∀ d ∈ deepDs T e ds, d.cells.length = n
 | [], _, d, hd => by simp [deepDs] at hd
 | x :: ds, h, d, hd => by
  simp only [deepDs, List.mem_cons] at hd
  rcases hd with rfl | hd
  ·
   rw [deepD_cells]; exact h x (by simp)
  ·
   exact deepDs_sz (fun y hy => h y (List.mem_cons_of_mem _ hy)) d hd
end
end
def normV (T : Tab) (t : TypeId) (v : AV) : AV := match v with
 | .im d => .im (deepD T t d)
 | v => v
def normA (T : Tab) : List TypeId → List AV → List AV
 | _, [] => []
 | [], v :: vs => v :: vs
 | t :: ts, v :: vs => normV T t v :: normA T ts vs
theorem normA_rv {T : Tab} {I : Nat → Option (Array Value)} {κ : Nat → Option Loc} : ∀ {ts : List TypeId} {as : List AV} {vs : List Value}, RVs I κ as vs → RVs I κ (normA T ts as) vs
 | _, [], vs, h => by simpa [normA] using h
 | [], d :: ds, vs, h => by simpa [normA] using h
 | t :: ts, d :: ds, vs, h => by
  simp only [normA]
  cases h with
  | cons _ _ v vs h hs =>
   refine .cons _ _ _ _ ?_ (normA_rv hs)
   unfold normV
   split
   ·
    cases h with | im _ _ h => exact .im _ _ (deepD_rd h)
   ·
    exact h
end Go.AM.S
/- The abstract machine, part S2: code, by steps that are told whom blocks are lent to; and with what comes next handed in. -/
set_option linter.unusedVariables false
set_option linter.unusedSimpArgs false
namespace Go.AM.S
open Go.AM
def stepG (X : Px) (ops : Array Oper) (env : Env) (H : Heap) (o : Oper) : Option (Env × Heap) :=
 match o.dst with
 | some d => match stepM X.toCx X.nl ops (pre X env H o d).1 (pre X env H o d).2 o with
  | some (env', H') => some (claims d (X.clm d) env' H')
  | none => none
 | none => stepM X.toCx X.nl ops env H o
def runG1 (X : Px) (ops : Array Oper) : List Oper → Env → Heap → Option (Env × Heap)
 | [], env, H => some (env, H)
 | o :: os, env, H => match stepG X ops env H o with
  | some (env', H') => runG1 X ops os env' H'
  | none => none
def runPG (X : Cx) (ops : Array Oper) : List Oper → Env → Heap → Option (Env × Heap)
 | [], env, H => some (env, H)
 | o :: os, env, H => match stepPM X ops env H o with
  | some (env', H') => runPG X ops os env' H'
  | none => none
def runDG (X : Px) (ops : Array Oper) (env : Env) (H : Heap) : Option (Env × Heap) :=
 match runPG X.toCx ops (ops.toList.take (cutOf ops)) env H with
 | some (env', H') => runG1 X ops (ops.toList.drop (cutOf ops)) env' H'
 | none => none
def execM (X : Px) (lf : Nat) : Code → Env → Heap → Option (Ex × Env × Heap)
 | .skip, env, H => some (.normal, env, H)
 | .region _ ops draw, env, H => match (if draw then runDG X ops env H else runG1 X ops ops.toList env H) with
  | some (env', H') => some (.normal, env', H')
  | none => none
 | .seq a b, env, H => match execM X lf a env H with
  | some (.normal, env', H') => execM X lf b env' H'
  | r => r
 | .cond c t e, env, H => match opd env c with
  | some (.im (.bool true)) => execM X lf t env H
  | some (.im (.bool false)) => execM X lf e env H
  | _ => none
 | .block id c, env, H => match execM X lf c env H with
  | some (.exit i, env', H') => if i == id then some (.normal, forget X.nl (X.after id) env' H') else some (.exit i, env', H')
  | some (.normal, env', H') => some (.normal, forget X.nl (X.after id) env' H')
  | some (.ret, env', H') => some (.ret, env', H')
  | none => none
 | .loop c, env, H => iter (headOf X c) (execM X lf c) lf env H
 | .exit id, env, H => some (.exit id, env, H)
 | .ret, env, H => some (.ret, forget X.nl X.out env H)
 | _, _, _ => none
theorem stepG_stepF {X : Px} {ops : Array Oper} {env : Env} {H : Heap} {o : Oper} {s : Env × Heap} (h : stepG X ops env H o = some s) : stepF X ops env H o = some s := by
 unfold stepG at h
 unfold stepF
 split at h
 ·
  rename_i d hd
  split at h
  ·
   rename_i e2 H2 h2
   try simp only [hd]
   rw [stepM_stepO h2]
   exact h
  ·
   cases h
 ·
  rename_i hd
  try simp only [hd]
  exact stepM_stepO h
theorem runG1_runF {X : Px} {ops : Array Oper} : ∀ (os : List Oper) {env : Env} {H : Heap} {s : Env × Heap}, runG1 X ops os env H = some s → runF X ops os env H = some s
 | [], env, H, s, h => h
 | o :: os, env, H, s, h => by
  unfold runG1 at h
  unfold runF
  split at h
  ·
   rename_i e2 H2 h2
   rw [stepG_stepF h2]
   exact runG1_runF os h
  ·
   cases h
theorem runPG_runP {X : Cx} {ops : Array Oper} : ∀ (os : List Oper) {env : Env} {H : Heap} {s : Env × Heap}, runPG X ops os env H = some s → runP X ops os env H = some s
 | [], env, H, s, h => h
 | o :: os, env, H, s, h => by
  unfold runPG at h
  unfold runP
  split at h
  ·
   rename_i e2 H2 h2
   rw [stepPM_stepP h2]
   exact runPG_runP os h
  ·
   cases h
theorem runDG_runD {X : Px} {ops : Array Oper} {env : Env} {H : Heap} {s : Env × Heap} (h : runDG X ops env H = some s) : runD X ops env H = some s := by
 unfold runDG at h
 unfold runD
 split at h
 ·
  rename_i e2 H2 h2
  rw [runPG_runP _ h2]
  exact runG1_runF _ h
 ·
  cases h
theorem iter_sub {head : Env → Heap → Env × Heap} {body body' : Env → Heap → Option (Ex × Env × Heap)} (hb : ∀ env H r, body env H = some r → body' env H = some r) {n : Nat} {env : Env} {H : Heap} {r : Ex × Env × Heap} (h : iter head body n env H = some r) : iter head body' n env H = some r :=
 iter_mono hb (Nat.le_refl n) h
theorem execM_exec {X : Px} {lf : Nat} : ∀ (c : Code) {env : Env} {H : Heap} {r : Ex × Env × Heap}, execM X lf c env H = some r → exec X lf c env H = some r := by
 intro c
 induction c with
 | region id ops draw =>
  intro env H r h
  unfold execM at h
  unfold exec
  split at h
  ·
   rename_i e2 H2 h2
   cases h
   split at h2
   ·
    rename_i hd; rw [if_pos hd, runDG_runD h2]
   ·
    rename_i hd; rw [if_neg hd, runG1_runF _ h2]
  ·
   cases h
 | seq a b iha ihb =>
  intro env H r h
  unfold execM at h
  unfold exec
  split at h
  ·
   rename_i e2 H2 h2
   rw [iha h2]
   exact ihb h
  ·
   rename_i hne
   rw [iha h]
   split
   ·
    rename_i heq; cases heq; exact absurd h (hne _ _)
   ·
    rfl
 | cond c t e iht ihe =>
  intro env H r h
  unfold execM at h
  unfold exec
  split at h
  ·
   rename_i hc; rw [hc]; exact iht h
  ·
   rename_i hc; rw [hc]; exact ihe h
  ·
   cases h
 | block id c ih =>
  intro env H r h
  unfold execM at h
  unfold exec
  split at h
  ·
   rename_i h2; rw [ih h2]; exact h
  ·
   rename_i h2; rw [ih h2]; exact h
  ·
   rename_i h2; rw [ih h2]; exact h
  ·
   cases h
 | loop c ih =>
  intro env H r h
  unfold execM at h
  unfold exec
  exact iter_sub (fun _ _ _ => ih) h
 | _ => intro env H r h; exact h
/-! ### More answers of calls, more answers -/
section
variable {X : Px} {c c' : Oracle} {ops : Array Oper}
theorem stepG_le (hc : LeC c c') {env : Env} {H : Heap} {o : Oper} {s : Env × Heap} (h : stepG { X with call := c } ops env H o = some s) : stepG { X with call := c' } ops env H o = some s := by
 unfold stepG at h ⊢
 split at h
 ·
  rename_i d hd
  split at h
  ·
   rename_i e2 H2 h2
   have := stepM_le (X := X.toCx) hc h2
   have hp : pre { X with call := c' } env H o d = pre { X with call := c } env H o d := rfl
   simp only [hp]
   rw [this]
   exact h
  ·
   cases h
 ·
  rename_i hd
  exact stepM_le (X := X.toCx) hc h
theorem runG1_le (hc : LeC c c') : ∀ (os : List Oper) {env : Env} {H : Heap} {s : Env × Heap}, runG1 { X with call := c } ops os env H = some s → runG1 { X with call := c' } ops os env H = some s
 | [], env, H, s, h => h
 | o :: os, env, H, s, h => by
  unfold runG1 at h ⊢
  split at h
  ·
   rename_i e2 H2 h2
   rw [stepG_le hc h2]
   exact runG1_le hc os h
  ·
   cases h
theorem runPG_le (hc : LeC c c') : ∀ (os : List Oper) {env : Env} {H : Heap} {s : Env × Heap}, runPG { X.toCx with call := c } ops os env H = some s → runPG { X.toCx with call := c' } ops os env H = some s
 | [], env, H, s, h => h
 | o :: os, env, H, s, h => by
  unfold runPG at h ⊢
  split at h
  ·
   rename_i e2 H2 h2
   rw [stepPM_le (X := X.toCx) hc h2]
   exact runPG_le hc os h
  ·
   cases h
theorem runDG_le (hc : LeC c c') {env : Env} {H : Heap} {s : Env × Heap} (h : runDG { X with call := c } ops env H = some s) : runDG { X with call := c' } ops env H = some s := by
 unfold runDG at h ⊢
 split at h
 ·
  rename_i e2 H2 h2
  have := runPG_le (X := X) hc _ h2
  simp only
  rw [this]
  exact runG1_le hc _ h
 ·
  cases h
theorem execM_le (hc : LeC c c') {lf lf' : Nat} (hl : lf ≤ lf') : ∀ (cd : Code) {env : Env} {H : Heap} {r : Ex × Env × Heap}, execM { X with call := c } lf cd env H = some r → execM { X with call := c' } lf' cd env H = some r := by
 intro cd
 induction cd with
 | region id ops draw =>
  intro env H r h
  unfold execM at h ⊢
  split at h
  ·
   rename_i e2 H2 h2
   cases h
   split at h2
   ·
    rename_i hd; rw [if_pos hd, runDG_le hc h2]
   ·
    rename_i hd; rw [if_neg hd, runG1_le hc _ h2]
  ·
   cases h
 | seq a b iha ihb =>
  intro env H r h
  unfold execM at h ⊢
  split at h
  ·
   rename_i e2 H2 h2
   rw [iha h2]
   exact ihb h
  ·
   rename_i hne
   rw [iha h]
   split
   ·
    rename_i heq; cases heq; exact absurd h (hne _ _)
   ·
    rfl
 | cond c t e iht ihe =>
  intro env H r h
  unfold execM at h ⊢
  split at h
  ·
   exact iht h
  ·
   exact ihe h
  ·
   cases h
 | block id c ih =>
  intro env H r h
  unfold execM at h ⊢
  split at h
  ·
   rename_i h2; rw [ih h2]; exact h
  ·
   rename_i h2; rw [ih h2]; exact h
  ·
   rename_i h2; rw [ih h2]; exact h
  ·
   cases h
 | loop c ih =>
  intro env H r h
  unfold execM at h ⊢
  exact iter_mono (fun _ _ _ => ih) hl h
 | _ => intro env H r h; exact h
end
/-! ### With what comes next handed in -/
section
variable {β : Type} {r : β}
noncomputable def stepGZ (X : Px) (sg : Sgs β) (ops : Array Oper) (env : Env) (H : Heap) (o : Oper) (K : Env → Heap → Option β) : Option β :=
 match o.dst with
 | some d => match X.frz d with
  | true => allF (pre X env H o d).1 fun e => allF (pre X env H o d).2 fun h => stepMZ X.toCx sg X.nl ops e h o fun env' H' => allF (claims d (X.clm d) env' H').1 fun e => allF (claims d (X.clm d) env' H').2 fun h => K e h
  | false => match (X.clm d).isEmpty with
   | true => stepMZ X.toCx sg X.nl ops env H o K
   | false => stepMZ X.toCx sg X.nl ops env H o fun env' H' => allF (claims d (X.clm d) env' H').1 fun e => allF (claims d (X.clm d) env' H').2 fun h => K e h
 | none => stepMZ X.toCx sg X.nl ops env H o K
theorem stepGZ_spec {X : Px} {sg : Sgs β} (hI : sg.Ok X.call r) {ops : Array Oper} {env : Env} {H : Heap} {o : Oper} {K : Env → Heap → Option β} (h : stepGZ X sg ops env H o K = some r) : ∃ env' H', stepG X ops env H o = some (env', H') ∧ K env' H' = some r := by
 unfold stepGZ at h
 unfold stepG
 split at h
 ·
  rename_i d hd
  split at h
  ·
   simp only [allF_eq] at h
   obtain ⟨e1, H1, h1, h⟩ := stepMZ_spec hI h
   exact ⟨_, _, by rw [h1], h⟩
  ·
   rename_i hf
   have hp : pre X env H o d = (env, H) := by unfold pre; rw [hf]; rfl
   split at h
   ·
    rename_i hc
    obtain ⟨e1, H1, h1, h⟩ := stepMZ_spec hI h
    refine ⟨e1, H1, ?_, h⟩
    rw [hp, h1]
    have : X.clm d = [] := by simpa using hc
    simp [this, claims]
   ·
    simp only [allF_eq] at h
    obtain ⟨e1, H1, h1, h⟩ := stepMZ_spec hI h
    exact ⟨_, _, by rw [hp, h1], h⟩
 ·
  exact stepMZ_spec hI h
noncomputable def runGZ (X : Px) (sg : Sgs β) (ops : Array Oper) (K : Env → Heap → Option β) (l : List Oper) : Env → Heap → Option β :=
 List.rec (fun env H => K env H) (fun o _ ih env H => stepGZ X sg ops env H o ih) l
theorem runGZ_spec {X : Px} {sg : Sgs β} (hI : sg.Ok X.call r) {ops : Array Oper} {K : Env → Heap → Option β} : ∀ (os : List Oper) {env : Env} {H : Heap}, runGZ X sg ops K os env H = some r → ∃ env' H', runG1 X ops os env H = some (env', H') ∧ K env' H' = some r
 | [], env, H, h => ⟨env, H, rfl, h⟩
 | o :: os, env, H, h => by
  have h : stepGZ X sg ops env H o (runGZ X sg ops K os) = some r := h
  obtain ⟨e1, H1, h1, h⟩ := stepGZ_spec hI h
  obtain ⟨e2, H2, h2, h⟩ := runGZ_spec hI os h
  exact ⟨e2, H2, by unfold runG1; simp only [h1, h2], h⟩
noncomputable def runPGZ (X : Cx) (sg : Sgs β) (ops : Array Oper) (K : Env → Heap → Option β) (l : List Oper) : Env → Heap → Option β :=
 List.rec (fun env H => K env H) (fun o _ ih env H => stepPZ X sg ops env H o ih) l
theorem runPGZ_spec {X : Cx} {sg : Sgs β} {ops : Array Oper} {K : Env → Heap → Option β} : ∀ (os : List Oper) {env : Env} {H : Heap}, runPGZ X sg ops K os env H = some r → ∃ env' H', runPG X ops os env H = some (env', H') ∧ K env' H' = some r
 | [], env, H, h => ⟨env, H, rfl, h⟩
 | o :: os, env, H, h => by
  have h : stepPZ X sg ops env H o (runPGZ X sg ops K os) = some r := h
  obtain ⟨e1, H1, h1, h⟩ := stepPZ_spec h
  obtain ⟨e2, H2, h2, h⟩ := runPGZ_spec os h
  exact ⟨e2, H2, by unfold runPG; simp only [h1, h2], h⟩
noncomputable def runDGZ (X : Px) (sg : Sgs β) (ops : Array Oper) (env : Env) (H : Heap) (K : Env → Heap → Option β) : Option β :=
 runPGZ X.toCx sg ops (fun env' H' => runGZ X sg ops K (ops.toList.drop (cutOf ops)) env' H') (ops.toList.take (cutOf ops)) env H
theorem runDGZ_spec {X : Px} {sg : Sgs β} (hI : sg.Ok X.call r) {ops : Array Oper} {env : Env} {H : Heap} {K : Env → Heap → Option β} (h : runDGZ X sg ops env H K = some r) : ∃ env' H', runDG X ops env H = some (env', H') ∧ K env' H' = some r := by
 unfold runDGZ at h
 unfold runDG
 obtain ⟨e1, H1, h1, h⟩ := runPGZ_spec _ h
 obtain ⟨e2, H2, h2, h⟩ := runGZ_spec hI _ h
 exact ⟨e2, H2, by simp only [h1, h2], h⟩
abbrev Kz (β : Type) := Ex → Env → Heap → Option β
def loopZ (head : Env → Heap → Env × Heap) (R : Env → Heap → Option β) (K : Kz β) : Kz β := fun x env' H' => match x with
 | .normal => R (head env' H').1 (head env' H').2
 | x => K x env' H'
noncomputable def iterZ (head : Env → Heap → Env × Heap) (body : Env → Heap → Kz β → Option β) (K : Kz β) (n : Nat) : Env → Heap → Option β :=
 Nat.rec (motive := fun _ => Env → Heap → Option β) (fun _ _ => none) (fun _ ih env H => body env H (loopZ head ih K)) n
def seqZ (k1 : Env → Heap → Option β) (K : Kz β) : Kz β := fun x env H => match x with
 | .normal => k1 env H
 | x => K x env H
def blockZ (X : Px) (id : Nat) (K : Kz β) : Kz β := fun x env' H' => match x with
 | .exit i => match Nat.beq i id with
  | true => K .normal (forget X.nl (X.after id) env' H').1 (forget X.nl (X.after id) env' H').2
  | false => K (.exit i) env' H'
 | .normal => K .normal (forget X.nl (X.after id) env' H').1 (forget X.nl (X.after id) env' H').2
 | .ret => K .ret env' H'
noncomputable def execS (X : Px) (sg : Sgs β) (lf : Nat) : Code → Env → Heap → Kz β → Option β
 | .skip, env, H, K => K .normal env H
 | .region _ ops draw, env, H, K => match draw with
  | true => runDGZ X sg ops env H fun env' H' => K .normal env' H'
  | false => runGZ X sg ops (fun env' H' => K .normal env' H') ops.toList env H
 | .seq a b, env, H, K => execS X sg lf a env H (seqZ (fun env' H' => execS X sg lf b env' H' K) K)
 | .cond c t e, env, H, K => match opd env c with
  | some (.im (.bool b)) => cond b (execS X sg lf t env H K) (execS X sg lf e env H K)
  | _ => none
 | .block id c, env, H, K => execS X sg lf c env H (blockZ X id K)
 | .loop c, env, H, K => iterZ (headOf X c) (execS X sg lf c) K lf (headOf X c env H).1 (headOf X c env H).2
 | .exit id, env, H, K => K (.exit id) env H
 | .ret, env, H, K => K .ret (forget X.nl X.out env H).1 (forget X.nl X.out env H).2
 | _, _, _, _ => none
theorem iterZ_spec {X : Px} {sg : Sgs β} {lf : Nat} {c : Code} {K : Kz β} (ih : ∀ {env : Env} {H : Heap} {K : Kz β}, execS X sg lf c env H K = some r → ∃ x env' H', execM X lf c env H = some (x, env', H') ∧ K x env' H' = some r) :
  ∀ (n : Nat) {env : Env} {H : Heap}, iterZ (headOf X c) (execS X sg lf c) K n (headOf X c env H).1 (headOf X c env H).2 = some r → ∃ x env' H', iter (headOf X c) (execM X lf c) n env H = some (x, env', H') ∧ K x env' H' = some r
 | 0, env, H, h => by cases h
 | n + 1, env, H, h => by
  have h : execS X sg lf c (headOf X c env H).1 (headOf X c env H).2 (loopZ (headOf X c) (iterZ (headOf X c) (execS X sg lf c) K n) K) = some r := h
  obtain ⟨x, e1, H1, h1, h⟩ := ih h
  unfold iter
  rw [h1]
  cases x with
  | normal => exact iterZ_spec ih n h
  | exit i => exact ⟨_, _, _, rfl, h⟩
  | ret => exact ⟨_, _, _, rfl, h⟩
theorem execS_spec {X : Px} {sg : Sgs β} (hI : sg.Ok X.call r) {lf : Nat} : ∀ (c : Code) {env : Env} {H : Heap} {K : Kz β}, execS X sg lf c env H K = some r → ∃ x env' H', execM X lf c env H = some (x, env', H') ∧ K x env' H' = some r := by
 intro c
 induction c with
 | skip => intro env H K h; exact ⟨_, _, _, rfl, h⟩
 | exit id => intro env H K h; exact ⟨_, _, _, rfl, h⟩
 | ret => intro env H K h; exact ⟨_, _, _, rfl, h⟩
 | region id ops draw =>
  intro env H K h
  unfold execS at h
  unfold execM
  split at h
  ·
   obtain ⟨e1, H1, h1, h⟩ := runDGZ_spec hI h
   exact ⟨_, _, _, by rw [if_pos rfl, h1], h⟩
  ·
   obtain ⟨e1, H1, h1, h⟩ := runGZ_spec hI _ h
   exact ⟨_, _, _, by rw [if_neg (by decide), h1], h⟩
 | seq a b iha ihb =>
  intro env H K h
  unfold execS at h
  unfold execM
  obtain ⟨x, e1, H1, h1, h⟩ := iha h
  rw [h1]
  cases x with
  | normal => exact ihb h
  | exit i => exact ⟨_, _, _, rfl, h⟩
  | ret => exact ⟨_, _, _, rfl, h⟩
 | cond c t e iht ihe =>
  intro env H K h
  unfold execS at h
  unfold execM
  split at h
  ·
   rename_i b hb
   rw [hb]
   cases b with
   | true => exact iht h
   | false => exact ihe h
  ·
   cases h
 | block id c ih =>
  intro env H K h
  unfold execS at h
  unfold execM
  obtain ⟨x, e1, H1, h1, h⟩ := ih h
  rw [h1]
  cases x with
  | normal => exact ⟨_, _, _, rfl, h⟩
  | exit i =>
   simp only [blockZ] at h
   split at h
   ·
    rename_i hi
    rw [Nat.beq_eq] at hi
    exact ⟨_, _, _, by simp only [hi, beq_self_eq_true, if_true], h⟩
   ·
    rename_i hi
    have hi : (i == id) = false := by
     rw [beq_eq_false_iff_ne]
     intro e
     rw [e, show Nat.beq id id = true by rw [Nat.beq_eq]] at hi
     cases hi
    exact ⟨_, _, _, by simp only [hi, Bool.false_eq_true, if_false], h⟩
  | ret => exact ⟨_, _, _, rfl, h⟩
 | loop c ih =>
  intro env H K h
  unfold execS at h
  unfold execM
  exact iterZ_spec ih lf h
 | _ => intro env H K h; simp [execS] at h
end
end Go.AM.S
/- The abstract machine, part S6: code that may panic, by steps that are told whom blocks are lent to. -/
set_option linter.unusedVariables false
set_option linter.unusedSimpArgs false
namespace Go.AM.S
open Go.AM
def isPan (o : Oper) : Bool := match o.op with
 | .panic _ => true
 | _ => false
def panL (X : Cx) (pan : Oracle) (ops : Array Oper) (env : Env) (H : Heap) (o : Oper) : Option (AV × Env × Heap) := match guardOf ops env o with
 | some true => match callOf env o with
  | some (g, as) => match X.lend g || X.keep (o.dst.getD 0) with
   | true => callL pan env H g as
   | false => none
  | none => none
 | _ => none
theorem panL_panO {X : Cx} {pan : Oracle} {ops : Array Oper} {env : Env} {H : Heap} {o : Oper} {r : AV × Env × Heap} (h : panL X pan ops env H o = some r) : panO pan ops env H o = some r := by
 unfold panL at h
 unfold panO
 split at h
 ·
  rename_i hg
  simp only [hg]
  split at h
  ·
   rename_i g as hco
   split at h
   ·
    unfold callOf at hco
    split at hco
    ·
     rename_i f args ats ho
     rw [ho]
     simp only
     split at hco
     ·
      rename_i fv as' hf has
      split at hco
      ·
       rename_i g' a c hfn
       cases hco
       simp only [hf, has, hfn]
       exact h
      ·
       cases hco
     ·
      cases hco
    ·
     cases hco
   ·
    cases h
  ·
   cases h
 ·
  cases h
def frzOf (X : Px) (o : Oper) : Bool := match o.dst with
 | some d => X.frz d
 | none => false
def panF (X : Px) (pan : Oracle) (ops : Array Oper) (env : Env) (H : Heap) (o : Oper) : Option (AV × Env × Heap) := match frzOf X o with
 | true => none
 | false => panL X.toCx pan ops env H o
theorem panF_panO {X : Px} {pan : Oracle} {ops : Array Oper} {env : Env} {H : Heap} {o : Oper} {r : AV × Env × Heap} (h : panF X pan ops env H o = some r) : panO pan ops env H o = some r := by
 unfold panF at h
 split at h
 ·
  cases h
 ·
  exact panL_panO h
def stepQ (X : Px) (pan : Oracle) (ops : Array Oper) (env : Env) (H : Heap) (o : Oper) : Option (Option AV × Env × Heap) := match isPan o with
 | true => match panO pan ops env H o with
  | some (x, env', H') => some (some x, env', H')
  | none => none
 | false => match panF X pan ops env H o with
  | some (x, env', H') => some (some x, env', H')
  | none => match stepG X ops env H o with
   | some (env', H') => some (none, env', H')
   | none => match evB X ops env H o with
    | some (env', H') => some (none, env', H')
    | none => none
def runQ (X : Px) (pan : Oracle) (ops : Array Oper) : List Oper → Env → Heap → Option (Option AV × Env × Heap)
 | [], env, H => some (none, env, H)
 | o :: os, env, H => match stepQ X pan ops env H o with
  | some (none, env', H') => runQ X pan ops os env' H'
  | some (some x, env', H') => some (some x, env', H')
  | none => none
def runQY (X : Px) (pan : Oracle) (ops : Array Oper) (env : Env) (H : Heap) : Option (Option AV × Env × Heap) :=
 match runPG X.toCx ops (ops.toList.take (cutOf ops)) env H with
 | some (env', H') => runQ X pan ops (ops.toList.drop (cutOf ops)) env' H'
 | none => none
def iterQ (head : Env → Heap → Env × Heap) (body : Env → Heap → Option (Ez × Env × Heap)) : Nat → Env → Heap → Option (Ez × Env × Heap)
 | 0, _, _ => none
 | n + 1, env, H => match body (head env H).1 (head env H).2 with
  | some (.normal, env', H') => iterQ head body n env' H'
  | r => r
def endQ : Option (Option AV × Env × Heap) → Option (Ez × Env × Heap)
 | some (none, env', H') => some (.normal, env', H')
 | some (some x, env', H') => some (.pan x, env', H')
 | none => none
def execQ (X : Px) (pan : Oracle) (lf : Nat) : Code → Env → Heap → Option (Ez × Env × Heap)
 | .skip, env, H => some (.normal, env, H)
 | .region _ ops draw, env, H => endQ (if draw then runQY X pan ops env H else runQ X pan ops ops.toList env H)
 | .seq a b, env, H => match execQ X pan lf a env H with
  | some (.normal, env', H') => execQ X pan lf b env' H'
  | r => r
 | .cond c t e, env, H => match opd env c with
  | some (.im (.bool true)) => execQ X pan lf t env H
  | some (.im (.bool false)) => execQ X pan lf e env H
  | _ => none
 | .block id c, env, H => match execQ X pan lf c env H with
  | some (.exit i, env', H') => if i == id then some (.normal, forget X.nl (X.after id) env' H') else some (.exit i, env', H')
  | some (.normal, env', H') => some (.normal, forget X.nl (X.after id) env' H')
  | some (.ret, env', H') => some (.ret, env', H')
  | some (.pan x, env', H') => some (.pan x, env', H')
  | none => none
 | .loop c, env, H => iterQ (headOf X c) (execQ X pan lf c) lf env H
 | .exit id, env, H => some (.exit id, env, H)
 | .ret, env, H => some (.ret, forget X.nl X.out env H)
 | _, _, _ => none
section
variable {P : Program} {I I' : Nat → Option (Array Value)} {κ κ' : Nat → Option Loc} {w w' : World} {H H' : Heap} {DF : List Deferred} {A : Nat → Prop} {κ0 : Nat → Option Loc} {I0 : Nat → Option (Array Value)} {w0 : World} {env env' : Env} {a : Act} {ops : Array Oper} {Q : Exit → Act → World → Prop} {X : Px} {pan : Oracle} {nl : Nat}
theorem stepQ_wp (hT : X.T.ok P) (hc : CallOK P X.call) (hp : PanOK P pan) (s : Stx DF A κ0 X.nl I0 w0 H env a w) {i : Nat} {o : Oper} (ho : ops[i]? = some o) {r : Option AV} (h : stepQ X pan ops env H o = some (r, env', H')) {K : Act → World → Prop}
  (hK : r = none → ∀ a' w', Stx DF A κ0 X.nl I0 w0 H' env' a' w' → K a' w')
  (hQ : ∀ x, r = some x → ∀ I κ a' w' v, St DF A κ0 X.nl I0 w0 I κ H' w' env' a' → RV I κ x v → Q (pan1 v) a' w') : wpOp P ops Q i K a w := by
 unfold stepQ at h
 split at h
 ·
  split at h
  ·
   rename_i x e2 H2 h2
   simp at h
   obtain ⟨rfl, rfl, rfl⟩ := h
   exact panO_wp hp s ho h2 (hQ _ rfl)
  ·
   simp at h
 ·
  split at h
  ·
   rename_i x e2 H2 h2
   simp at h
   obtain ⟨rfl, rfl, rfl⟩ := h
   exact panO_wp hp s ho (panF_panO h2) (hQ _ rfl)
  ·
   split at h
   ·
    rename_i e2 H2 h2
    simp at h
    obtain ⟨rfl, rfl, rfl⟩ := h
    exact stepF_wp hT hc s ho (stepG_stepF h2) (hK rfl)
   ·
    split at h
    ·
     rename_i e2 H2 h2
     simp at h
     obtain ⟨rfl, rfl, rfl⟩ := h
     exact evB_wp hT hc s ho h2 (hK rfl)
    ·
     simp at h
theorem runQ_wp (hT : X.T.ok P) (hc : CallOK P X.call) (hp : PanOK P pan) {e : Ez} (hM : Meets DF A κ0 X.nl I0 w0 e env' H' Q) : ∀ (os : List Oper) (l : List Nat) {H w env a}, l.map (ops[·]?) = os.map some →
  Stx DF A κ0 X.nl I0 w0 H env a w → endQ (runQ X pan ops os env H) = some (e, env', H') → wpOps P ops Q l a w
 | [], l, H, w, env, a, hl, s, h => by
  have : l = [] := by simpa using hl
  subst this
  simp [runQ, endQ] at h
  obtain ⟨rfl, rfl, rfl⟩ := h
  exact hM.1 rfl _ _ s
 | o :: os, l, H, w, env, a, hl, s, h => by
  cases l with
  | nil => simp at hl
  | cons i l =>
   simp only [List.map_cons, List.cons.injEq] at hl
   obtain ⟨hi, hl⟩ := hl
   unfold runQ at h
   rw [wpOps_cons]
   split at h
   ·
    rename_i e2 H2 h2
    exact stepQ_wp hT hc hp s hi h2 (fun _ a' w' s' => runQ_wp hT hc hp hM os l hl s' h) (fun x hx => by cases hx)
   ·
    rename_i x e2 H2 h2
    simp [endQ] at h
    obtain ⟨rfl, rfl, rfl⟩ := h
    exact stepQ_wp hT hc hp s hi h2 (fun hx => by cases hx) (fun x' hx => by cases hx; exact hM.2 _ rfl)
   ·
    simp [endQ] at h
theorem runQY_wp (hT : X.T.ok P) (hc : CallOK P X.call) (hp : PanOK P pan) (hm : P.follows .mixedOrders = true) {e : Ez} (hM : Meets DF A κ0 X.nl I0 w0 e env' H' Q) (hd : drawOK ops = true) (s : Stx DF A κ0 X.nl I0 w0 H env a w)
  (h : endQ (runQY X pan ops env H) = some (e, env', H')) {id : Nat} : (Code.region id ops true).wp P Q a w := by
 have d := drawIn_spec hd
 have hpos := d.pos
 refine wp_region_any hm ?_
 unfold runQY at h
 split at h
 ·
  rename_i e1 H1 hr
  obtain ⟨st, h0, h1, hs⟩ := runP_trace _ _ _ _ (runPG_runP _ hr)
  have hlen : (ops.toList.take (cutOf ops)).length = cutOf ops := by simp; omega
  rw [hlen] at h1
  have T : Trace X.toCx ops (cutOf ops) st := ⟨fun i hi => by
   refine ⟨ops[i]'(by omega), by simp [show i < ops.size by omega], hs i _ ?_⟩
   rw [List.getElem?_take, if_pos hi]
   simp [show i < ops.size by omega]⟩
  obtain ⟨I1, κ1, s1⟩ := s
  have s1 : St DF A κ0 X.nl I0 w0 I1 κ1 (st 0).2 { w with drawn := w.drawn + 1 } (st 0).1 a := by
   rw [h0]
   exact s1.later ⟨rfl, rfl, rfl, Nat.le_refl _, fun _ _ => rfl⟩
  have hno : ∀ i, ¬ isL (Array.replicate ops.size false) i := fun i h => by
   unfold isL at h
   by_cases hlt : i < ops.size <;> simp [hlt] at h
  refine wpAny_part hT hc d T s1 (fun a' w' I' κ' s' => ?_) ops.size (Array.replicate ops.size false) I1 κ1 _ (st 0).1 a (List.range (cutOf ops)) (by simp; omega) (fun i hi _ => by simpa using hi) (fun k _ => hno k) ?_
  ·
   rw [h1] at s'
   exact runQ_wp hT hc hp hM _ _ (range_drop ops _ (by omega)) ⟨_, _, s'⟩ h
  ·
   refine ⟨⟨s1.wr.im, fun i l hl => ?_, s1.wr.inj, s1.wr.apart⟩, s1.env, .refl _, rfl, fun _ _ => rfl, fun i _ hl => absurd hl (hno i), fun _ _ => rfl, fun i hi hg => ⟨fun hl => absurd hl (hno i), fun hk => ?_⟩, fun _ _ _ _ _ _ h => .inl h, s1.nodef, fun i hl => absurd hl (hno i), by simp⟩
   ·
    obtain ⟨blk, hb, hlies⟩ := s1.wr.own _ _ hl
    exact ⟨blk, T.sub (by omega) (Nat.le_refl _) _ _ hb, hlies⟩
   ·
    exact absurd (s1.none_at (T.lens (i := 0) (j := i) (by omega) (by omega))) hk
 ·
  simp [endQ] at h
theorem iterQ_wp {c : Code} {body : Env → Heap → Option (Ez × Env × Heap)} {head : Env → Heap → Env × Heap} (hhead : ∀ env H a w, Stx DF A κ0 X.nl I0 w0 H env a w → Stx DF A κ0 X.nl I0 w0 (head env H).2 (head env H).1 a w)
  (hbody : ∀ {env H a w} {e : Ez} {env' : Env} {H' : Heap} {Q : Exit → Act → World → Prop}, Stx DF A κ0 X.nl I0 w0 H env a w → body env H = some (e, env', H') → Meets DF A κ0 X.nl I0 w0 e env' H' Q → c.wp P Q a w)
  {e : Ez} (hM : Meets DF A κ0 X.nl I0 w0 e env' H' Q) (n : Nat) (h : iterQ head body n env H = some (e, env', H')) (s : Stx DF A κ0 X.nl I0 w0 H env a w) : (Code.loop c).wp P Q a w := by
 let Left : Act → World → Nat → Prop := fun a w n => ∃ env H, Stx DF A κ0 X.nl I0 w0 H env a w ∧ iterQ head body n env H = some (e, env', H')
 have hex : ∃ n, Left a w n := ⟨n, env, H, s, h⟩
 refine wp_loop (fun a w => ∃ n, Left a w n) (fun a w => leastOf (Left a w)) hex fun a w hI => ?_
 obtain ⟨⟨env1, H1, s1, h1⟩, hle⟩ := leastOf_spec hI
 generalize hN : leastOf (Left a w) = N at h1 hle
 cases N with
 | zero => simp [iterQ] at h1
 | succ N =>
  unfold iterQ at h1
  split at h1
  ·
   rename_i e2 H2 hb
   refine hbody (hhead _ _ _ _ s1) hb ⟨fun _ a' w' s' => ?_, fun x hx => by cases hx⟩
   have hx : ∃ n, Left a' w' n := ⟨N, e2, H2, s', h1⟩
   refine ⟨hx, ?_⟩
   have := (leastOf_spec hx).2 N ⟨e2, H2, s', h1⟩
   omega
  ·
   rename_i hne
   refine hbody (hhead _ _ _ _ s1) h1 ⟨fun hp a' w' s' => ?_, fun x hx I κ a' w' v s' hr => hM.2 x hx I κ a' w' v s' hr⟩
   have := hM.1 hp a' w' s'
   cases e with
   | normal => exact absurd h1 (hne _ _)
   | exit id => exact this
   | ret => exact this
   | pan y => cases hp
theorem execQ_wp (hT : X.T.ok P) (hc : CallOK P X.call) (hp : PanOK P pan) (hm : P.follows .mixedOrders = true) {lf : Nat} : ∀ (c : Code) {env H a w} {e : Ez} {env' : Env} {H' : Heap} {Q : Exit → Act → World → Prop}, codeOK c = true → Stx DF A κ0 X.nl I0 w0 H env a w →
  execQ X pan lf c env H = some (e, env', H') → Meets DF A κ0 X.nl I0 w0 e env' H' Q → c.wp P Q a w
 | .skip, env, H, a, w, e, env', H', Q, hk, s, h, hM => by
  simp [execQ] at h
  obtain ⟨rfl, rfl, rfl⟩ := h
  exact wp_skip (hM.1 rfl _ _ s)
 | .exit id, env, H, a, w, e, env', H', Q, hk, s, h, hM => by
  simp [execQ] at h
  obtain ⟨rfl, rfl, rfl⟩ := h
  exact wp_exit (hM.1 rfl _ _ s)
 | .ret, env, H, a, w, e, env', H', Q, hk, s, h, hM => by
  simp only [execQ, Option.some.injEq, Prod.mk.injEq] at h
  obtain ⟨rfl, h⟩ := h
  have := forget_st (X := X) X.out s
  rw [h] at this
  exact wp_ret (hM.1 rfl _ _ this)
 | .region id ops draw, env, H, a, w, e, env', H', Q, hk, s, h, hM => by
  unfold execQ at h
  cases draw with
  | true =>
   simp only [if_true] at h
   exact runQY_wp hT hc hp hm hM (by simpa [codeOK] using hk) s h
  | false =>
   simp only [Bool.false_eq_true, if_false] at h
   exact wp_region (runQ_wp hT hc hp hM ops.toList _ (range_map ops) s h)
 | .seq x y, env, H, a, w, e, env', H', Q, hk, s, h, hM => by
  simp only [codeOK, Bool.and_eq_true] at hk
  unfold execQ at h
  split at h
  ·
   rename_i e2 H2 hx
   exact wp_seq (execQ_wp hT hc hp hm x hk.1 s hx ⟨fun _ a' w' s' => execQ_wp hT hc hp hm y hk.2 s' h hM, fun x hx => by cases hx⟩)
  ·
   rename_i hne
   refine wp_seq (execQ_wp hT hc hp hm x hk.1 s h ⟨fun hq a' w' s' => ?_, fun x hx I κ a' w' v s' hr => hM.2 x hx I κ a' w' v s' hr⟩)
   have := hM.1 hq a' w' s'
   cases e with
   | normal => exact absurd h (hne _ _)
   | exit id => exact this
   | ret => exact this
   | pan y => cases hq
 | .cond c x y, env, H, a, w, e, env', H', Q, hk, s, h, hM => by
  simp only [codeOK, Bool.and_eq_true] at hk
  unfold execQ at h
  obtain ⟨I, κ, st⟩ := s
  split at h
  ·
   rename_i hc'
   have hr := opd_rv st.env hc'
   generalize hv : a.eval c = v at hr
   cases hr with
   | im _ _ hr =>
   cases hr
   exact wp_cond_true hv (execQ_wp hT hc hp hm x hk.1 ⟨_, _, st⟩ h hM)
  ·
   rename_i hc'
   have hr := opd_rv st.env hc'
   generalize hv : a.eval c = v at hr
   cases hr with
   | im _ _ hr =>
   cases hr
   exact wp_cond_false hv (execQ_wp hT hc hp hm y hk.2 ⟨_, _, st⟩ h hM)
  ·
   simp at h
 | .block id c, env, H, a, w, e, env', H', Q, hk, s, h, hM => by
  unfold execQ at h
  have hk' : codeOK c = true := by simpa [codeOK] using hk
  split at h
  ·
   rename_i i e2 H2 hx
   split at h
   ·
    rename_i hi
    simp only [Option.some.injEq, Prod.mk.injEq] at h
    simp at hi
    obtain ⟨rfl, h⟩ := h
    exact wp_block (execQ_wp hT hc hp hm c hk' s hx ⟨fun _ a' w' s' => by
     show (if i = id then Q .normal a' w' else Q (.exit i) a' w')
     rw [if_pos hi]
     have := forget_st (X := X) (X.after id) s'
     rw [h] at this
     exact hM.1 rfl _ _ this, fun x hx => by cases hx⟩)
   ·
    rename_i hi
    simp at h hi
    obtain ⟨rfl, rfl, rfl⟩ := h
    exact wp_block (execQ_wp hT hc hp hm c hk' s hx ⟨fun _ a' w' s' => by
     show (if i = id then Q .normal a' w' else Q (.exit i) a' w')
     rw [if_neg hi]
     exact hM.1 rfl _ _ s', fun x hx => by cases hx⟩)
  ·
   rename_i e2 H2 hx
   simp only [Option.some.injEq, Prod.mk.injEq] at h
   obtain ⟨rfl, h⟩ := h
   refine wp_block (execQ_wp hT hc hp hm c hk' s hx ⟨fun _ a' w' s' => ?_, fun x hx => by cases hx⟩)
   have := forget_st (X := X) (X.after id) s'
   rw [h] at this
   exact hM.1 rfl _ _ this
  ·
   rename_i e2 H2 hx
   simp at h
   obtain ⟨rfl, rfl, rfl⟩ := h
   exact wp_block (execQ_wp hT hc hp hm c hk' s hx ⟨fun _ a' w' s' => hM.1 rfl _ _ s', fun x hx => by cases hx⟩)
  ·
   rename_i y e2 H2 hx
   simp at h
   obtain ⟨rfl, rfl, rfl⟩ := h
   exact wp_block (execQ_wp hT hc hp hm c hk' s hx ⟨fun hq => (by cases hq), fun x hx I κ a' w' v s' hr => hM.2 x hx I κ a' w' v s' hr⟩)
  ·
   simp at h
 | .loop c, env, H, a, w, e, env', H', Q, hk, s, h, hM => by
  unfold execQ at h
  exact iterQ_wp (fun env H a w => headOf_st c) (fun s' h' hM' => execQ_wp hT hc hp hm c (by simpa [codeOK] using hk) s' h' hM') hM lf h s
 | .rangeFunc .., env, H, a, w, e, env', H', Q, hk, s, h, hM => by simp [execQ] at h
 | .scope _, env, H, a, w, e, env', H', Q, hk, s, h, hM => by simp [execQ] at h
 | .label _, env, H, a, w, e, env', H', Q, hk, s, h, hM => by simp [execQ] at h
 | .goto _, env, H, a, w, e, env', H', Q, hk, s, h, hM => by simp [execQ] at h
 | .refuse _, env, H, a, w, e, env', H', Q, hk, s, h, hM => by simp [execQ] at h
end
def bodyQ (T : Tab) (call pan : Oracle) (i : Fi) (lf : Nat) (as : List AV) (H : Heap) : Option (Bool × AV × Heap) :=
 match execQ (i.px T call H.length) pan lf i.code (entry i.fn.ntmps as) H with
 | some (.normal, env, H') => match fin T H.length i.fn.results.toList env H' with
  | some (r, H2) => some (false, r, H2)
  | none => none
 | some (.ret, env, H') => match fin T H.length i.fn.results.toList env H' with
  | some (r, H2) => some (false, r, H2)
  | none => none
 | some (.pan x, env, H') => some (true, AV.ren (posn (keepL H.length H' [x])) x, pickH H' (keepL H.length H' [x]))
 | _ => none
section
variable {P : Program} {T : Tab}
theorem bodyQ_ok (hT : T.ok P) {call pan : Oracle} (hc : CallOK P call) (hp : PanOK P pan) (hm : P.follows .mixedOrders = true) {f : FuncId} {i : Fi} (hi : i.ok P f) {lf : Nat} : OkZ P f (bodyQ T call pan i lf) := by
 have hrun : ∀ (w : World) (vals : List Value), (callFunc f vals.toArray).run P w = .ok (.enter f vals.toArray) w := by
  intro w vals
  have h1 : ¬ i.fn.name = "runtime.NumGoroutine" := by simpa using hi.name
  simp [callFunc, hi.get, h1, hi.body]
 have start : ∀ (as : List AV) (H : Heap) (I : Nat → Option (Array Value)) (κ : Nat → Option Loc) (w : World) (vals : List Value), WR I κ H w → (∀ i blk, H[i]? = some (some blk) → ∃ l, κ i = some l) → RVs I κ as vals →
   Stx [] (lentOf κ) κ (i.px T call H.length).nl I w H (entry i.fn.ntmps as) { tmps := vals.toArray ++ Array.replicate (i.fn.ntmps - vals.toArray.size) undef, defers := [] } w := by
  intro as H I κ w vals hw hdom hr
  have hlen := hr.length
  refine ⟨I, κ, hw, ?_, .refl _, fun i b base cap sz nn h => .inl ⟨i, base, cap, sz, nn, h⟩, hdom, rfl, fun _ _ _ h => h, Nat.le_refl _⟩
  simp only [Array.toList_append, Array.toList_replicate, List.size_toArray, hlen]
  exact hr.append rep_rv
 constructor
 ·
  intro as H res H' hsp I κ w vals hw hdom hr
  rw [hrun]
  show Calls P f vals.toArray w _
  refine calls_of_wp hi.get hi.body ?_
  have close : ∀ env2 H2, fin T H.length i.fn.results.toList env2 H2 = some (res, H') → ∀ a' w', Stx [] (lentOf κ) κ (i.px T call H.length).nl I w H2 env2 a' w' → a'.defers = [] ∧ ∃ v, (results i.fn a'.tmps).run P w' = .ok v w' ∧
    ∃ I' κ', St [] (lentOf κ) κ H.length I w I' κ' H' w' [res] ⟨#[v], []⟩ := by
   intro env2 H2 hf a' w' ⟨I2, κ2, s2⟩
   unfold fin at hf
   split at hf
   ·
    rename_i vs hvs
    simp at hf
    obtain ⟨rfl, rfl⟩ := hf
    obtain ⟨v, hv, hvr⟩ := fin_run hT s2.wr s2.env hvs
    refine ⟨s2.nodef, v, hv, I2, pickK κ2 (keepL H.length H2 vs), ?_⟩
    have s3 : St [] (lentOf κ) κ H.length I w I2 κ2 H2 w' [oneOf vs] ⟨#[v], []⟩ := ⟨s2.wr, .cons _ _ _ _ hvr .nil, s2.mv, s2.own, s2.dom, rfl, s2.lent, s2.len⟩
    have := s3.pick (keepL_nodup H.length H2 vs) (keepL_pre H.length H2 vs)
    simpa [AV.rens] using this
   ·
    simp at hf
  dsimp only at hsp
  split at hsp
  ·
   rename_i r H2 hb
   simp at hsp
   obtain ⟨rfl, rfl⟩ := hsp
   unfold bodyQ at hb
   split at hb
   ·
    rename_i env2 H3 hx
    split at hb
    ·
     rename_i r H4 hf
     simp at hb
     obtain ⟨rfl, rfl⟩ := hb
     exact execQ_wp hT hc hp hm i.code hi.draws (start as H I κ w vals hw hdom hr) hx ⟨fun _ a' w' s' => close _ _ hf a' w' s', fun x hx => by cases hx⟩
    ·
     simp at hb
   ·
    rename_i env2 H3 hx
    split at hb
    ·
     rename_i r H4 hf
     simp at hb
     obtain ⟨rfl, rfl⟩ := hb
     exact execQ_wp hT hc hp hm i.code hi.draws (start as H I κ w vals hw hdom hr) hx ⟨fun _ a' w' s' => close _ _ hf a' w' s', fun x hx => by cases hx⟩
    ·
     simp at hb
   ·
    simp at hb
   ·
    simp at hb
  ·
   simp at hsp
 ·
  intro as H x H' hb I κ w vals hw hdom hr
  refine ⟨hrun w vals, ?_⟩
  refine calls_of_wp hi.get hi.body ?_
  unfold bodyQ at hb
  split at hb
  ·
   split at hb <;> simp at hb
  ·
   split at hb <;> simp at hb
  ·
   rename_i y env2 H3 hx
   simp at hb
   obtain ⟨rfl, rfl⟩ := hb
   refine execQ_wp hT hc hp hm i.code hi.draws (start as H I κ w vals hw hdom hr) hx ⟨fun hq => (by cases hq), fun x hx I2 κ2 a' w' v s2 hvr => ?_⟩
   cases hx
   refine ⟨s2.nodef, v, rfl, I2, pickK κ2 (keepL H.length H3 [y]), ?_⟩
   have s3 : St [] (lentOf κ) κ H.length I w I2 κ2 H3 w' [y] ⟨#[v], []⟩ := ⟨s2.wr, .cons _ _ _ _ hvr .nil, s2.mv, s2.own, s2.dom, rfl, s2.lent, s2.len⟩
   have := s3.pick (keepL_nodup H.length H3 [y]) (keepL_pre H.length H3 [y])
   simpa [AV.rens] using this
  ·
   simp at hb
end
end Go.AM.S
/- The abstract machine, part S7: steps that may panic, with what comes next handed in. -/
set_option linter.unusedVariables false
set_option linter.unusedSimpArgs false
namespace Go.AM.S
open Go.AM
def Apart (call pan : Oracle) : Prop := ∀ g as H r, call g as H = some r → pan g as H = none
def imAll : List AV → Bool
 | [] => true
 | .im _ :: l => imAll l
 | _ :: _ => false
def mapPut (kd : IntKind) (n : Int) (d : D) : List D → Option (List D)
 | .int .i64 (.ofNat c) :: ds => match findD kd n ds with
  | some (some (j, _)) => match ds[j]? with
   | some (.agg [_, _, b]) => some (.int .i64 (.ofNat c) :: ds.set j (.agg [.int kd n, d, b]))
   | _ => none
  | some none => some (.int .i64 (.ofNat (c + 1)) :: (ds ++ [.agg [.int kd n, d, .int .i64 (.ofNat c)]]))
  | none => none
 | _ => none
section
variable {β : Type} {r : β}
def evUZ (T : Tab) (env : Env) (H : Heap) (t : TypeId) (m k x : Operand) (K : Heap → Option β) : Option β := match T.ty t with
 | some ⟨.map kt et, _, _, _⟩ => match T.ty kt, opd env m, opd env k, opd env x with
  | some ⟨.int kd, _, _, _⟩, some (.mp i), some (.im (.int kd' n)), some (.im d) => match decide (kd = kd') with
   | true => grdZ (d.plain = true) (match H[i]? with
    | some (some (.o l)) => optZ (mapPut kd n d l) fun l' => K (H.set i (some (.o l')))
    | _ => none)
   | false => none
  | _, _, _, _ => none
 | _ => none
theorem evUZ_spec {T : Tab} {env : Env} {H : Heap} {o : Oper} {t : TypeId} {m k x : Operand} (ho : o.op = .mapUpdate t m k x) {K : Heap → Option β} (h : evUZ T env H t m k x K = some r) : ∃ H', evU T env H o = some H' ∧ K H' = some r := by
 unfold evUZ at h
 unfold evU
 rw [ho]
 simp only
 split at h
 ·
  rename_i kt et a1 a2 a3 hty
  simp only [hty]
  split at h
  ·
   rename_i kd b1 b2 b3 i kd' n d hk hm hkk hx
   simp only [hk, hm, hkk, hx]
   split at h
   ·
    rename_i hkd
    have hkd : kd = kd' := by simpa using hkd
    obtain ⟨hp, h⟩ := grdZ_spec h
    rw [if_pos ⟨hkd, hp⟩]
    split at h
    ·
     rename_i l hl
     obtain ⟨l', hl', h⟩ := optZ_spec h
     unfold mapPut at hl'
     split at hl'
     ·
      rename_i c ds
      simp only [hl]
      split at hl'
      ·
       rename_i j q hf
       simp only [hf]
       split at hl'
       ·
        rename_i y1 y2 b hb
        cases hl'
        simp only [hb]
        exact ⟨_, rfl, h⟩
       ·
        cases hl'
      ·
       rename_i hf
       cases hl'
       simp only [hf]
       exact ⟨_, rfl, h⟩
      ·
       cases hl'
     ·
      cases hl'
    ·
     cases h
   ·
    cases h
  ·
   cases h
 ·
  cases h
def mapGet (kd : IntKind) (n : Int) (z : D) : List D → Option (D × Bool)
 | _ :: ds => match findD kd n ds with
  | some (some (_, v)) => some (v, true)
  | some none => some (z, false)
  | none => none
 | [] => none
def evLkZ (T : Tab) (env : Env) (H : Heap) (t : TypeId) (m k : Operand) (ok : Bool) (K : AV → Option β) : Option β := match T.ty t with
 | some ⟨.map kt et, _, _, _⟩ => match T.ty kt, T.ty et, opd env m, opd env k with
  | some ⟨.int kd, _, _, _⟩, some ie, some (.mp i), some (.im (.int kd' n)) => match decide (kd = kd') with
   | true => match H[i]? with
    | some (some (.o l)) => match constD ie.zero with
     | some z => optZ (mapGet kd n z l) fun p => K (match ok with
      | true => .tup [.im p.1, .im (.bool p.2)]
      | false => .im p.1)
     | none => none
    | _ => none
   | false => none
  | _, _, _, _ => none
 | _ => none
theorem evLkZ_spec {T : Tab} {env : Env} {H : Heap} {id : Nat} {o : Oper} {t : TypeId} {m k : Operand} {ok : Bool} (ho : o.op = .lookup t m k ok) {K : AV → Option β} (h : evLkZ T env H t m k ok K = some r) : ∃ v, evX T env H id o = some (v, none) ∧ K v = some r := by
 unfold evLkZ at h
 unfold evX
 rw [ho]
 simp only
 split at h
 ·
  rename_i kt et a1 a2 a3 hty
  simp only [hty]
  split at h
  ·
   rename_i kd b1 b2 b3 ie i kd' n hk he hm hkk
   simp only [hk, he, hm, hkk]
   split at h
   ·
    rename_i hkd
    have hkd : kd = kd' := by simpa using hkd
    rw [if_pos hkd]
    split at h
    ·
     rename_i l hl
     split at h
     ·
      rename_i z hz
      obtain ⟨p, hp, h⟩ := optZ_spec h
      unfold mapGet at hp
      split at hp
      ·
       rename_i c ds
       simp only [hl, hz]
       split at hp
       ·
        rename_i j v hf
        cases hp
        simp only [hf]
        cases ok with
        | true => exact ⟨_, rfl, h⟩
        | false => exact ⟨_, rfl, h⟩
       ·
        rename_i hf
        cases hp
        simp only [hf]
        cases ok with
        | true => exact ⟨_, rfl, h⟩
        | false => exact ⟨_, rfl, h⟩
       ·
        cases hp
      ·
       cases hp
     ·
      cases h
    ·
     cases h
   ·
    cases h
  ·
   cases h
 ·
  cases h
def plainDst (X : Px) (o : Oper) : Bool := match o.dst with
 | some d => match X.frz d with
  | true => false
  | false => (X.clm d).isEmpty
 | none => true
noncomputable def stepQZ (X : Px) (sg : Sgs β) (ops : Array Oper) (env : Env) (H : Heap) (o : Oper) (K : Option AV → Env → Heap → Option β) : Option β := match o.op with
 | .panic x => guardZ ops env o (fun env => match opd env x with
   | some (.im (.ifc t d)) => K (some (.im (.ifc t d))) env H
   | some (.ifc t y) => K (some (.ifc t y)) env H
   | _ => none) (fun _ => none)
 | .mapUpdate t m k x => match o.dst with
  | none => guardZ ops env o (fun env => evUZ X.T env H t m k x fun H' => allF H' fun h => K none env h) (fun _ => none)
  | some _ => none
 | .lookup t m k ok => match plainDst X o with
  | true => guardZ ops env o (fun env => evLkZ X.T env H t m k ok fun v => castVZ (X.cast o) v fun v => putZ env o.dst v fun e => K none e H) (fun _ => none)
  | false => none
 | .buildSlice _ _ _ => match opds env o.op.operands.toList with
  | some vs => match imAll vs with
   | true => stepGZ X sg ops env H o fun e h => K none e h
   | false => match stepQ X (fun _ _ _ => none) ops env H o with
    | some (x, e, h) => allF e fun e => allF h fun h => K x e h
    | none => none
  | none => none
 | .call { callee := .value _, .. } => match frzOf X o with
  | true => none
  | false => stepGZ X sg ops env H o fun e h => K none e h
 | _ => stepGZ X sg ops env H o fun e h => K none e h
theorem callOf_no {env : Env} {o : Oper} (h : isCall o = false) : callOf env o = none := by
 unfold callOf
 split
 ·
  rename_i f args ats ho; exact absurd ho (notCall_op h _ _ _)
 ·
  rfl
theorem panL_no {X : Cx} {pan : Oracle} {ops : Array Oper} {env : Env} {H : Heap} {o : Oper} (h : isCall o = false) : panL X pan ops env H o = none := by
 unfold panL
 simp only [callOf_no h]
 split <;> rfl
theorem panF_no {X : Px} {pan : Oracle} {ops : Array Oper} {env : Env} {H : Heap} {o : Oper} (h : isCall o = false) : panF X pan ops env H o = none := by
 unfold panF
 split
 ·
  rfl
 ·
  exact panL_no h
theorem stepQ_of {X : Px} {pan : Oracle} {ops : Array Oper} {env env' : Env} {H H' : Heap} {o : Oper} (h1 : isPan o = false) (h2 : panF X pan ops env H o = none) (h : stepG X ops env H o = some (env', H')) : stepQ X pan ops env H o = some (none, env', H') := by
 unfold stepQ
 simp only [h1, h2, h]
theorem stepG_panL {X : Px} {pan : Oracle} (hD : Apart X.call pan) {ops : Array Oper} {env env' : Env} {H H' : Heap} {o : Oper} (h : stepG X ops env H o = some (env', H')) : panF X pan ops env H o = none := by
 unfold panF
 split
 ·
  rfl
 rename_i hf
 cases hcl : isCall o with
 | false => exact panL_no hcl
 | true =>
  have h : stepM X.toCx X.nl ops env H o = none → False := by
   intro hn
   unfold stepG at h
   unfold frzOf at hf
   split at h
   ·
    rename_i d hd
    rw [hd] at hf
    have hf : X.frz d = false := hf
    have hp : pre X env H o d = (env, H) := by unfold pre; rw [hf]; rfl
    rw [hp] at h
    simp only [hn] at h
    cases h
   ·
    rw [hn] at h; cases h
  unfold panL
  split
  ·
   rename_i hg
   split
   ·
    rename_i g as hco
    split
    ·
     rename_i hl
     cases hq : callL pan env H g as with
     | none => rfl
     | some q =>
      exfalso
      apply h
      unfold stepM
      simp only [hg, hcl, hco, hl]
      have : callL X.call env H g as = none := by
       unfold callL at hq ⊢
       cases hc : X.call g (AV.rens (posn (reach H 400 (AV.idss as) [])) as) (pickH H (reach H 400 (AV.idss as) [])) with
       | none => rfl
       | some q2 =>
        have := hD _ _ _ _ hc
        simp only [this] at hq
        cases hq
      simp only [this]
    ·
     rfl
   ·
    rfl
  ·
   rfl
theorem stepQ_pan {X : Px} {pan pan' : Oracle} {ops : Array Oper} {env : Env} {H : Heap} {o : Oper} (h1 : isPan o = false) (h2 : isCall o = false) : stepQ X pan ops env H o = stepQ X pan' ops env H o := by
 unfold stepQ
 simp only [h1, panF_no h2]
theorem stepG_map {X : Px} {ops : Array Oper} {env : Env} {H : Heap} {o : Oper} {t : TypeId} {m k x : Operand} (ho : o.op = .mapUpdate t m k x) (hd : o.dst = none) (hg : guardOf ops env o = some true) : stepG X ops env H o = none := by
 have hcl : isCall o = false := by unfold isCall; rw [ho]
 have ep : evP { X.toCx with call := fun _ _ _ => none } env H H.length o = none := by
  unfold evP evQ
  have e1 : ev1 X.T X.own env o = none := by unfold ev1; rw [ho]
  have e0 : ev0 X.T env H o = none := by unfold ev0; rw [ho]
  have ex : evX X.T env H H.length o = none := by unfold evX; rw [ho]
  simp only [e1, e0, evC_no hcl, ex]
 have es : evS X.T env H o = none := by unfold evS; rw [ho]
 have ea : evA X.T X.nl env H o = none := by unfold evA; rw [ho]
 unfold stepG
 rw [hd]
 simp only
 unfold stepM
 simp only [hg, hcl]
 unfold stepO
 simp only [hg, evL_no hcl, ep, es, ea]
theorem stepG_lookup {X : Px} {ops : Array Oper} {env : Env} {H : Heap} {o : Oper} {t : TypeId} {m k : Operand} {ok : Bool} {v v' : AV} (ho : o.op = .lookup t m k ok) (hd : plainDst X o = true) (hg : guardOf ops env o = some true)
  (hx : evX X.T env H H.length o = some (v, none)) (hc : castV (X.cast o) v = some v') : stepG X ops env H o = some (putE env o.dst v', H) := by
 have hcl : isCall o = false := by unfold isCall; rw [ho]
 have ep : evP { X.toCx with call := fun _ _ _ => none } env H H.length o = some (v', none) := by
  unfold evP evQ
  have e1 : ev1 X.T X.own env o = none := by unfold ev1; rw [ho]
  have e0 : ev0 X.T env H o = none := by unfold ev0; rw [ho]
  simp only [e1, e0, evC_no hcl, hx, hc]
 have hM : stepM X.toCx X.nl ops env H o = some (putE env o.dst v', H) := by
  unfold stepM
  simp only [hg, hcl]
  unfold stepO
  simp only [hg, evL_no hcl, ep]
 unfold stepG
 unfold plainDst at hd
 split
 ·
  rename_i d hdd
  rw [hdd] at hd hM
  simp only at hd
  split at hd
  ·
   cases hd
  ·
   rename_i hf
   have hp : pre X env H o d = (env, H) := by unfold pre; rw [hf]; rfl
   rw [hp]
   simp only [hM]
   have : X.clm d = [] := by simpa using hd
   rw [this, hdd]
   simp [claims]
 ·
  rename_i hdd
  rw [hM]
theorem stepQZ_spec {X : Px} {sg : Sgs β} (hI : sg.Ok X.call r) {pan : Oracle} (hD : Apart X.call pan) {ops : Array Oper} {env : Env} {H : Heap} {o : Oper} {K : Option AV → Env → Heap → Option β} (h : stepQZ X sg ops env H o K = some r) :
  ∃ x env' H', stepQ X pan ops env H o = some (x, env', H') ∧ K x env' H' = some r := by
 unfold stepQZ at h
 split at h
 ·
  rename_i x ho
  have h1 : isPan o = true := by unfold isPan; rw [ho]
  rcases guardZ_spec h with ⟨hg, h⟩ | ⟨hg, h⟩
  ·
   unfold stepQ
   simp only [h1]
   unfold panO
   simp only [hg, ho]
   split at h
   ·
    rename_i t d hx
    simp only [hx]
    exact ⟨_, _, _, rfl, h⟩
   ·
    rename_i t y hx
    simp only [hx]
    exact ⟨_, _, _, rfl, h⟩
   ·
    cases h
  ·
   cases h
 ·
  rename_i t m k x ho
  split at h
  ·
   rename_i hd
   rcases guardZ_spec h with ⟨hg, h⟩ | ⟨hg, h⟩
   ·
    obtain ⟨H', hu, h⟩ := evUZ_spec ho h
    rw [allF_eq] at h
    have h1 : isPan o = false := by unfold isPan; rw [ho]
    have hcl : isCall o = false := by unfold isCall; rw [ho]
    unfold stepQ
    simp only [h1, panF_no hcl, stepG_map ho hd hg]
    unfold evB
    simp only [ho, hg, hu, hd]
    exact ⟨_, _, _, rfl, h⟩
   ·
    cases h
  ·
   cases h
 ·
  rename_i t m k ok ho
  have h1 : isPan o = false := by unfold isPan; rw [ho]
  have hcl : isCall o = false := by unfold isCall; rw [ho]
  split at h
  ·
   rename_i hd
   rcases guardZ_spec h with ⟨hg, h⟩ | ⟨hg, h⟩
   ·
    obtain ⟨v, hx, h⟩ := evLkZ_spec (id := H.length) ho h
    obtain ⟨v', hc, h⟩ := castVZ_spec h
    exact ⟨_, _, _, stepQ_of h1 (panF_no hcl) (stepG_lookup ho hd hg hx hc), putZ_spec (k := fun e => K none e H) h⟩
   ·
    cases h
  ·
   cases h
 ·
  rename_i t n kv ho
  have h1 : isPan o = false := by unfold isPan; rw [ho]
  have hcl : isCall o = false := by unfold isCall; rw [ho]
  split at h
  ·
   split at h
   ·
    obtain ⟨e1, H1, hs, h⟩ := stepGZ_spec hI h
    exact ⟨_, _, _, stepQ_of h1 (panF_no hcl) hs, h⟩
   ·
    split at h
    ·
     rename_i x e1 H1 hs
     simp only [allF_eq] at h
     rw [stepQ_pan (pan' := fun _ _ _ => none) h1 hcl]
     exact ⟨_, _, _, hs, h⟩
    ·
     cases h
  ·
   cases h
 ·
  rename_i f args ats ho
  have h1 : isPan o = false := by unfold isPan; rw [ho]
  split at h
  ·
   cases h
  ·
   rename_i hf
   obtain ⟨e1, H1, hs, h⟩ := stepGZ_spec hI h
   exact ⟨_, _, _, stepQ_of h1 (stepG_panL hD hs) hs, h⟩
 ·
  rename_i n1 n2 n2b n3 n4
  have h1 : isPan o = false := by
   unfold isPan
   split
   ·
    rename_i x hx; exact absurd hx (n1 _)
   ·
    rfl
  have hcl : isCall o = false := by
   unfold isCall
   split
   ·
    rename_i f args ats hx; exact absurd hx (n4 _ _ _)
   ·
    rfl
  obtain ⟨e1, H1, hs, h⟩ := stepGZ_spec hI h
  exact ⟨_, _, _, stepQ_of h1 (panF_no hcl) hs, h⟩
end
end Go.AM.S
/- The abstract machine, part S8: code that may panic: more answers of calls, more answers; with what comes next handed in. -/
set_option linter.unusedVariables false
set_option linter.unusedSimpArgs false
namespace Go.AM.S
open Go.AM
section
variable {X : Px} {c c' p p' : Oracle} {ops : Array Oper}
theorem stepG_nocall {env : Env} {H : Heap} {o : Oper} (hcl : isCall o = false) : stepG { X with call := c } ops env H o = stepG { X with call := c' } ops env H o := by
 have e : ∀ env H, stepM { X.toCx with call := c } X.nl ops env H o = stepM { X.toCx with call := c' } X.nl ops env H o := by
  intro env H
  unfold stepM
  simp only [hcl]
 unfold stepG
 split
 ·
  rename_i d hd
  show (match stepM { X.toCx with call := c } X.nl ops (pre X env H o d).1 (pre X env H o d).2 o with
   | some (env', H') => some (claims d (X.clm d) env' H')
   | none => none) = _
  rw [e]
  rfl
 ·
  exact e env H
theorem stepF_nocall {env : Env} {H : Heap} {o : Oper} (hcl : isCall o = false) : stepF { X with call := c } ops env H o = stepF { X with call := c' } ops env H o := by
 have e : ∀ env H, stepO { X.toCx with call := c } X.nl ops env H o = stepO { X.toCx with call := c' } X.nl ops env H o := by
  intro env H
  unfold stepO
  simp only [evL_no hcl]
  have : evP { X.toCx with call := c } env H H.length o = evP { X.toCx with call := c' } env H H.length o := by
   unfold evP evQ
   simp only [evC_no hcl]
  simp only [this]
 unfold stepF
 split
 ·
  rename_i d hd
  show (match stepO { X.toCx with call := c } X.nl ops (pre X env H o d).1 (pre X env H o d).2 o with
   | some (env', H') => some (claims d (X.clm d) env' H')
   | none => none) = _
  rw [e]
  rfl
 ·
  exact e env H
theorem evB_nocall {env : Env} {H : Heap} {o : Oper} : evB { X with call := c } ops env H o = evB { X with call := c' } ops env H o := by
 unfold evB
 split
 ·
  rename_i t n kv ho
  have hcl : isCall o = false := by unfold isCall; rw [ho]
  split
  ·
   split
   ·
    exact stepF_nocall hcl
   ·
    exact stepF_nocall (X := { X with own := fun _ => true }) hcl
  ·
   rfl
 ·
  rfl
 ·
  rfl
theorem panL_le (hp : LeC p p') {env : Env} {H : Heap} {o : Oper} {s : AV × Env × Heap} (h : panL X.toCx p ops env H o = some s) : panL X.toCx p' ops env H o = some s := by
 unfold panL at h ⊢
 split at h
 ·
  rename_i hg
  try simp only [hg]
  split at h
  ·
   rename_i g as hco
   try simp only [hco]
   split at h
   ·
    rename_i hl
    try simp only [hl]
    exact callL_le hp h
   ·
    cases h
  ·
   cases h
 ·
  cases h
theorem stepQ_le (hc : LeC c c') (hp : LeC p p') (hD : Apart c' p') {env : Env} {H : Heap} {o : Oper} {s : Option AV × Env × Heap} (h : stepQ { X with call := c } p ops env H o = some s) : stepQ { X with call := c' } p' ops env H o = some s := by
 unfold stepQ at h
 split at h
 ·
  rename_i h1
  unfold stepQ
  simp only [h1]
  have e : panO p ops env H o = panO p' ops env H o := by
   unfold isPan at h1
   split at h1
   ·
    rename_i x ho
    unfold panO
    rw [ho]
   ·
    cases h1
  rw [← e]
  exact h
 ·
  rename_i h1
  split at h
  ·
   rename_i x e1 H1 hx
   have : panF { X with call := c' } p' ops env H o = some (x, e1, H1) := by
    unfold panF at hx ⊢
    have e : frzOf { X with call := c' } o = frzOf { X with call := c } o := rfl
    rw [e]
    split at hx
    ·
     cases hx
    ·
     rename_i hf
     simp only [hf]
     exact panL_le (X := X) hp hx
   unfold stepQ
   simp only [h1, this]
   exact h
  ·
   split at h
   ·
    rename_i e1 H1 hs
    have hs' := stepG_le (X := X) hc hs
    cases h
    exact stepQ_of h1 (stepG_panL (X := { X with call := c' }) hD hs') hs'
   ·
    rename_i hs
    split at h
    ·
     rename_i e1 H1 hb
     cases h
     have hcl : isCall o = false := by
      unfold isCall
      split
      ·
       rename_i f args ats ho
       unfold evB at hb
       rw [ho] at hb
       cases hb
      ·
       rfl
     unfold stepQ
     rw [evB_nocall (c := c) (c' := c')] at hb
     rw [stepG_nocall (c := c) (c' := c') hcl] at hs
     simp only [h1, panF_no hcl, hs, hb]
    ·
     cases h
theorem runQ_le (hc : LeC c c') (hp : LeC p p') (hD : Apart c' p') : ∀ (os : List Oper) {env : Env} {H : Heap} {s : Option AV × Env × Heap}, runQ { X with call := c } p ops os env H = some s → runQ { X with call := c' } p' ops os env H = some s
 | [], env, H, s, h => h
 | o :: os, env, H, s, h => by
  unfold runQ at h ⊢
  split at h
  ·
   rename_i e2 H2 h2
   rw [stepQ_le hc hp hD h2]
   exact runQ_le hc hp hD os h
  ·
   rename_i x e2 H2 h2
   rw [stepQ_le hc hp hD h2]
   exact h
  ·
   cases h
theorem runQY_le (hc : LeC c c') (hp : LeC p p') (hD : Apart c' p') {env : Env} {H : Heap} {s : Option AV × Env × Heap} (h : runQY { X with call := c } p ops env H = some s) : runQY { X with call := c' } p' ops env H = some s := by
 unfold runQY at h ⊢
 split at h
 ·
  rename_i e2 H2 h2
  have := runPG_le (X := X) hc _ h2
  simp only
  rw [this]
  exact runQ_le hc hp hD _ h
 ·
  cases h
theorem iterQ_mono {head : Env → Heap → Env × Heap} {body body' : Env → Heap → Option (Ez × Env × Heap)} (hb : ∀ env H r, body env H = some r → body' env H = some r) : ∀ {n m : Nat}, n ≤ m → ∀ {env : Env} {H : Heap} {r : Ez × Env × Heap}, iterQ head body n env H = some r → iterQ head body' m env H = some r
 | 0, m, hl, env, H, r, h => by cases h
 | n + 1, 0, hl, env, H, r, h => by omega
 | n + 1, m + 1, hl, env, H, r, h => by
  unfold iterQ at h ⊢
  split at h
  ·
   rename_i e2 H2 h2
   rw [hb _ _ _ h2]
   exact iterQ_mono hb (by omega) h
  ·
   rename_i hne
   rw [hb _ _ _ h]
   split
   ·
    rename_i heq; cases heq; exact absurd h (hne _ _)
   ·
    rfl
theorem execQ_le (hc : LeC c c') (hp : LeC p p') (hD : Apart c' p') {lf lf' : Nat} (hl : lf ≤ lf') : ∀ (cd : Code) {env : Env} {H : Heap} {r : Ez × Env × Heap}, execQ { X with call := c } p lf cd env H = some r → execQ { X with call := c' } p' lf' cd env H = some r := by
 intro cd
 induction cd with
 | region id ops draw =>
  intro env H r h
  unfold execQ at h ⊢
  have key : ∀ s, (if draw then runQY { X with call := c } p ops env H else runQ { X with call := c } p ops ops.toList env H) = some s → (if draw then runQY { X with call := c' } p' ops env H else runQ { X with call := c' } p' ops ops.toList env H) = some s := by
   intro s hs
   split at hs
   ·
    rename_i hd; rw [if_pos hd]; exact runQY_le hc hp hD hs
   ·
    rename_i hd; rw [if_neg hd]; exact runQ_le hc hp hD _ hs
  cases hq : (if draw then runQY { X with call := c } p ops env H else runQ { X with call := c } p ops ops.toList env H) with
  | none => rw [hq] at h; cases h
  | some s => rw [hq] at h; rw [key s hq]; exact h
 | seq a b iha ihb =>
  intro env H r h
  unfold execQ at h ⊢
  split at h
  ·
   rename_i e2 H2 h2
   rw [iha h2]
   exact ihb h
  ·
   rename_i hne
   rw [iha h]
   split
   ·
    rename_i heq; cases heq; exact absurd h (hne _ _)
   ·
    rfl
 | cond c t e iht ihe =>
  intro env H r h
  unfold execQ at h ⊢
  split at h
  ·
   exact iht h
  ·
   exact ihe h
  ·
   cases h
 | block id c ih =>
  intro env H r h
  unfold execQ at h ⊢
  split at h
  ·
   rename_i h2; rw [ih h2]; exact h
  ·
   rename_i h2; rw [ih h2]; exact h
  ·
   rename_i h2; rw [ih h2]; exact h
  ·
   rename_i h2; rw [ih h2]; exact h
  ·
   cases h
 | loop c ih =>
  intro env H r h
  unfold execQ at h ⊢
  exact iterQ_mono (fun _ _ _ => ih) hl h
 | _ => intro env H r h; exact h
end
/-! ### With what comes next handed in -/
section
variable {β : Type} {r : β}
noncomputable def runQZ (X : Px) (sg : Sgs β) (ops : Array Oper) (K : Option AV → Env → Heap → Option β) (l : List Oper) : Env → Heap → Option β :=
 List.rec (fun env H => K none env H) (fun o _ ih env H => stepQZ X sg ops env H o fun x e h => match x with
  | none => ih e h
  | some x => K (some x) e h) l
theorem runQZ_spec {X : Px} {sg : Sgs β} (hI : sg.Ok X.call r) {pan : Oracle} (hD : Apart X.call pan) {ops : Array Oper} {K : Option AV → Env → Heap → Option β} : ∀ (os : List Oper) {env : Env} {H : Heap}, runQZ X sg ops K os env H = some r → ∃ x env' H', runQ X pan ops os env H = some (x, env', H') ∧ K x env' H' = some r
 | [], env, H, h => ⟨none, env, H, rfl, h⟩
 | o :: os, env, H, h => by
  have h : stepQZ X sg ops env H o (fun x e h => match x with
   | none => runQZ X sg ops K os e h
   | some x => K (some x) e h) = some r := h
  obtain ⟨x, e1, H1, h1, h⟩ := stepQZ_spec hI hD h
  cases x with
  | none =>
   obtain ⟨x, e2, H2, h2, h⟩ := runQZ_spec hI hD os h
   exact ⟨x, e2, H2, by unfold runQ; simp only [h1, h2], h⟩
  | some x => exact ⟨some x, e1, H1, by unfold runQ; simp only [h1], h⟩
noncomputable def runQYZ (X : Px) (sg : Sgs β) (ops : Array Oper) (env : Env) (H : Heap) (K : Option AV → Env → Heap → Option β) : Option β :=
 runPGZ X.toCx sg ops (fun env' H' => runQZ X sg ops K (ops.toList.drop (cutOf ops)) env' H') (ops.toList.take (cutOf ops)) env H
theorem runQYZ_spec {X : Px} {sg : Sgs β} (hI : sg.Ok X.call r) {pan : Oracle} (hD : Apart X.call pan) {ops : Array Oper} {env : Env} {H : Heap} {K : Option AV → Env → Heap → Option β} (h : runQYZ X sg ops env H K = some r) : ∃ x env' H', runQY X pan ops env H = some (x, env', H') ∧ K x env' H' = some r := by
 unfold runQYZ at h
 unfold runQY
 obtain ⟨e1, H1, h1, h⟩ := runPGZ_spec _ h
 obtain ⟨x, e2, H2, h2, h⟩ := runQZ_spec hI hD _ h
 exact ⟨x, e2, H2, by simp only [h1, h2], h⟩
abbrev Kq (β : Type) := Ez → Env → Heap → Option β
def regQ (K : Kq β) : Option AV → Env → Heap → Option β := fun x env H => match x with
 | none => K .normal env H
 | some x => K (.pan x) env H
def loopQ (head : Env → Heap → Env × Heap) (R : Env → Heap → Option β) (K : Kq β) : Kq β := fun x env' H' => match x with
 | .normal => R (head env' H').1 (head env' H').2
 | x => K x env' H'
noncomputable def iterQZ (head : Env → Heap → Env × Heap) (body : Env → Heap → Kq β → Option β) (K : Kq β) (n : Nat) : Env → Heap → Option β :=
 Nat.rec (motive := fun _ => Env → Heap → Option β) (fun _ _ => none) (fun _ ih env H => body env H (loopQ head ih K)) n
def seqQ (k1 : Env → Heap → Option β) (K : Kq β) : Kq β := fun x env H => match x with
 | .normal => k1 env H
 | x => K x env H
def blockQ (X : Px) (id : Nat) (K : Kq β) : Kq β := fun x env' H' => match x with
 | .exit i => match Nat.beq i id with
  | true => K .normal (forget X.nl (X.after id) env' H').1 (forget X.nl (X.after id) env' H').2
  | false => K (.exit i) env' H'
 | .normal => K .normal (forget X.nl (X.after id) env' H').1 (forget X.nl (X.after id) env' H').2
 | .ret => K .ret env' H'
 | .pan x => K (.pan x) env' H'
noncomputable def execZQ (X : Px) (sg : Sgs β) (lf : Nat) : Code → Env → Heap → Kq β → Option β
 | .skip, env, H, K => K .normal env H
 | .region _ ops draw, env, H, K => match draw with
  | true => runQYZ X sg ops env H (regQ K)
  | false => runQZ X sg ops (regQ K) ops.toList env H
 | .seq a b, env, H, K => execZQ X sg lf a env H (seqQ (fun env' H' => execZQ X sg lf b env' H' K) K)
 | .cond c t e, env, H, K => match opd env c with
  | some (.im (.bool b)) => cond b (execZQ X sg lf t env H K) (execZQ X sg lf e env H K)
  | _ => none
 | .block id c, env, H, K => execZQ X sg lf c env H (blockQ X id K)
 | .loop c, env, H, K => iterQZ (headOf X c) (execZQ X sg lf c) K lf (headOf X c env H).1 (headOf X c env H).2
 | .exit id, env, H, K => K (.exit id) env H
 | .ret, env, H, K => K .ret (forget X.nl X.out env H).1 (forget X.nl X.out env H).2
 | _, _, _, _ => none
theorem iterQZ_spec {X : Px} {pan : Oracle} {sg : Sgs β} {lf : Nat} {c : Code} {K : Kq β} (ih : ∀ {env : Env} {H : Heap} {K : Kq β}, execZQ X sg lf c env H K = some r → ∃ x env' H', execQ X pan lf c env H = some (x, env', H') ∧ K x env' H' = some r) :
  ∀ (n : Nat) {env : Env} {H : Heap}, iterQZ (headOf X c) (execZQ X sg lf c) K n (headOf X c env H).1 (headOf X c env H).2 = some r → ∃ x env' H', iterQ (headOf X c) (execQ X pan lf c) n env H = some (x, env', H') ∧ K x env' H' = some r
 | 0, env, H, h => by cases h
 | n + 1, env, H, h => by
  have h : execZQ X sg lf c (headOf X c env H).1 (headOf X c env H).2 (loopQ (headOf X c) (iterQZ (headOf X c) (execZQ X sg lf c) K n) K) = some r := h
  obtain ⟨x, e1, H1, h1, h⟩ := ih h
  unfold iterQ
  rw [h1]
  cases x with
  | normal => exact iterQZ_spec ih n h
  | exit i => exact ⟨_, _, _, rfl, h⟩
  | ret => exact ⟨_, _, _, rfl, h⟩
  | pan y => exact ⟨_, _, _, rfl, h⟩
theorem execZQ_spec {X : Px} {sg : Sgs β} (hI : sg.Ok X.call r) {pan : Oracle} (hD : Apart X.call pan) {lf : Nat} : ∀ (c : Code) {env : Env} {H : Heap} {K : Kq β}, execZQ X sg lf c env H K = some r → ∃ x env' H', execQ X pan lf c env H = some (x, env', H') ∧ K x env' H' = some r := by
 have reg : ∀ {o : Option (Option AV × Env × Heap)} {x : Option AV} {e : Env} {h : Heap} {K : Kq β}, o = some (x, e, h) → regQ K x e h = some r → ∃ y e' h', endQ o = some (y, e', h') ∧ K y e' h' = some r := by
  intro o x e h K ho hk
  subst ho
  cases x with
  | none => exact ⟨_, _, _, rfl, hk⟩
  | some x => exact ⟨_, _, _, rfl, hk⟩
 intro c
 induction c with
 | skip => intro env H K h; exact ⟨_, _, _, rfl, h⟩
 | exit id => intro env H K h; exact ⟨_, _, _, rfl, h⟩
 | ret => intro env H K h; exact ⟨_, _, _, rfl, h⟩
 | region id ops draw =>
  intro env H K h
  unfold execZQ at h
  unfold execQ
  split at h
  ·
   obtain ⟨x, e1, H1, h1, h⟩ := runQYZ_spec hI hD h
   exact reg (by rw [if_pos rfl, h1]) h
  ·
   obtain ⟨x, e1, H1, h1, h⟩ := runQZ_spec hI hD _ h
   exact reg (by rw [if_neg (by decide), h1]) h
 | seq a b iha ihb =>
  intro env H K h
  unfold execZQ at h
  unfold execQ
  obtain ⟨x, e1, H1, h1, h⟩ := iha h
  rw [h1]
  cases x with
  | normal => exact ihb h
  | exit i => exact ⟨_, _, _, rfl, h⟩
  | ret => exact ⟨_, _, _, rfl, h⟩
  | pan y => exact ⟨_, _, _, rfl, h⟩
 | cond c t e iht ihe =>
  intro env H K h
  unfold execZQ at h
  unfold execQ
  split at h
  ·
   rename_i b hb
   rw [hb]
   cases b with
   | true => exact iht h
   | false => exact ihe h
  ·
   cases h
 | block id c ih =>
  intro env H K h
  unfold execZQ at h
  unfold execQ
  obtain ⟨x, e1, H1, h1, h⟩ := ih h
  rw [h1]
  cases x with
  | normal => exact ⟨_, _, _, rfl, h⟩
  | exit i =>
   simp only [blockQ] at h
   split at h
   ·
    rename_i hi
    rw [Nat.beq_eq] at hi
    exact ⟨_, _, _, by simp only [hi, beq_self_eq_true, if_true], h⟩
   ·
    rename_i hi
    have hi : (i == id) = false := by
     rw [beq_eq_false_iff_ne]
     intro e
     rw [e, show Nat.beq id id = true by rw [Nat.beq_eq]] at hi
     cases hi
    exact ⟨_, _, _, by simp only [hi, Bool.false_eq_true, if_false], h⟩
  | ret => exact ⟨_, _, _, rfl, h⟩
  | pan y => exact ⟨_, _, _, rfl, h⟩
 | loop c ih =>
  intro env H K h
  unfold execZQ at h
  unfold execQ
  exact iterQZ_spec ih lf h
 | _ => intro env H K h; simp [execZQ] at h
end
end Go.AM.S
/- The abstract machine, part S3: what a program's functions come to, calls, loops, panics and all: functions of data. -/
set_option linter.unusedVariables false
set_option linter.unusedSimpArgs false
namespace Go.AM.S
open Go.AM
theorem bodyQ_le {T : Tab} {c c' p p' : Oracle} (hc : LeC c c') (hp : LeC p p') (hD : Apart c' p') {lf lf' : Nat} (hl : lf ≤ lf') {i : Fi} {as : List AV} {H : Heap} {r : Bool × AV × Heap} (h : bodyQ T c p i lf as H = some r) : bodyQ T c' p' i lf' as H = some r := by
 unfold bodyQ at h ⊢
 have e : ∀ x, execQ (i.px T c H.length) p lf i.code (entry i.fn.ntmps as) H = some x → execQ (i.px T c' H.length) p' lf' i.code (entry i.fn.ntmps as) H = some x := fun x hx =>
  execQ_le (X := i.px T c H.length) hc hp hD hl _ hx
 split at h
 ·
  rename_i hx; rw [e _ hx]; exact h
 ·
  rename_i hx; rw [e _ hx]; exact h
 ·
  rename_i hx; rw [e _ hx]; exact h
 ·
  cases h
structure BookM where
 T : Tab
 fi : FuncId → Option Fi
 known : FuncId → Option Sz
 /-- Arguments in the one form. -/
 norm : FuncId → List AV → List AV
inductive Sem (B : BookM) : FuncId → List AV → Heap → Bool × AV × Heap → Prop
 | known (f : FuncId) (sp : Sz) (as : List AV) (H : Heap) (r : Bool × AV × Heap) (hk : B.known f = some sp) (h : sp (B.norm f as) H = some r) : Sem B f as H r
 | body (f : FuncId) (i : Fi) (call pan : Oracle) (lf : Nat) (as : List AV) (H : Heap) (r : Bool × AV × Heap) (hk : B.known f = none) (hi : B.fi f = some i) (hD : Apart call pan)
   (hc : ∀ g as H r, call g as H = some r → Sem B g as H (false, r)) (hp : ∀ g as H r, pan g as H = some r → Sem B g as H (true, r)) (h : bodyQ B.T call pan i lf (B.norm f as) H = some r) : Sem B f as H r
def orC (a b : Oracle) : Oracle := fun g as H => match a g as H with
 | some r => some r
 | none => b g as H
theorem Sem.det {B : BookM} {f : FuncId} {as : List AV} {H : Heap} {r : Bool × AV × Heap} (h : Sem B f as H r) : ∀ {r' : Bool × AV × Heap}, Sem B f as H r' → r = r' := by
 induction h with
 | known f sp as H r hk h =>
  intro r' h'
  cases h' with
  | known _ sp' _ _ _ hk' h' =>
   rw [hk] at hk'
   cases hk'
   rw [h] at h'
   exact Option.some.inj h'
  | body _ i call pan lf _ _ _ hk' hi hD hc hp h' => rw [hk] at hk'; cases hk'
 | body f i call pan lf as H r hk hi hD hc hp h ihc ihp =>
  intro r' h'
  cases h' with
  | known _ sp' _ _ _ hk' h' => rw [hk] at hk'; cases hk'
  | body _ i' call' pan' lf' _ _ _ hk' hi' hD' hc' hp' h' =>
   rw [hi] at hi'
   cases hi'
   have h1 : LeC call (orC call call') := fun g as H r hr => by simp only [orC, hr]
   have h2 : LeC call' (orC call call') := fun g as H r hr => by
    simp only [orC]
    cases hq : call g as H with
    | none => exact hr
    | some q =>
     have := ihc g as H q hq (hc' g as H r hr)
     cases this
     rfl
   have p1 : LeC pan (orC pan pan') := fun g as H r hr => by simp only [orC, hr]
   have p2 : LeC pan' (orC pan pan') := fun g as H r hr => by
    simp only [orC]
    cases hq : pan g as H with
    | none => exact hr
    | some q =>
     have := ihp g as H q hq (hp' g as H r hr)
     cases this
     rfl
   have hDD : Apart (orC call call') (orC pan pan') := by
    intro g as H r hr
    simp only [orC] at hr ⊢
    cases hq : pan g as H with
    | some q =>
     exfalso
     cases hcq : call g as H with
     | some x =>
      have := ihp g as H q hq (hc g as H x hcq)
      cases this
     | none =>
      rw [hcq] at hr
      have := ihp g as H q hq (hc' g as H r hr)
      cases this
    | none =>
     simp only
     cases hcq : call g as H with
     | some x =>
      cases hpq : pan' g as H with
      | none => rfl
      | some y =>
       have := ihc g as H x hcq (hp' g as H y hpq)
       cases this
     | none =>
      rw [hcq] at hr
      exact hD' g as H r hr
   have a := bodyQ_le h1 p1 hDD (Nat.le_max_left lf lf') h
   have b := bodyQ_le h2 p2 hDD (Nat.le_max_right lf lf') h'
   rw [a] at b
   exact Option.some.inj b
open Classical in
noncomputable def sem (B : BookM) : Oracle := fun f as H => if h : ∃ r, Sem B f as H (false, r) then some h.choose else none
open Classical in
noncomputable def semP (B : BookM) : Oracle := fun f as H => if h : ∃ r, Sem B f as H (true, r) then some h.choose else none
theorem sem_of {B : BookM} {f : FuncId} {as : List AV} {H : Heap} {r : AV × Heap} (h : Sem B f as H (false, r)) : sem B f as H = some r := by
 have hx : ∃ r, Sem B f as H (false, r) := ⟨r, h⟩
 unfold sem
 rw [dif_pos hx]
 have := Sem.det hx.choose_spec h
 simp only [Prod.mk.injEq, true_and] at this
 exact congrArg some this
theorem semP_of {B : BookM} {f : FuncId} {as : List AV} {H : Heap} {r : AV × Heap} (h : Sem B f as H (true, r)) : semP B f as H = some r := by
 have hx : ∃ r, Sem B f as H (true, r) := ⟨r, h⟩
 unfold semP
 rw [dif_pos hx]
 have := Sem.det hx.choose_spec h
 simp only [Prod.mk.injEq, true_and] at this
 exact congrArg some this
theorem of_sem {B : BookM} {f : FuncId} {as : List AV} {H : Heap} {r : AV × Heap} (h : sem B f as H = some r) : Sem B f as H (false, r) := by
 unfold sem at h
 split at h
 ·
  rename_i hx
  cases h
  exact hx.choose_spec
 ·
  cases h
theorem of_semP {B : BookM} {f : FuncId} {as : List AV} {H : Heap} {r : AV × Heap} (h : semP B f as H = some r) : Sem B f as H (true, r) := by
 unfold semP at h
 split at h
 ·
  rename_i hx
  cases h
  exact hx.choose_spec
 ·
  cases h
theorem sem_apart (B : BookM) : Apart (sem B) (semP B) := by
 intro g as H r hr
 cases hq : semP B g as H with
 | none => rfl
 | some q => cases Sem.det (of_sem hr) (of_semP hq)
theorem Sem.run {B : BookM} {f : FuncId} {i : Fi} (hi : B.fi f = some i) (hk : B.known f = none) {lf : Nat} {as : List AV} {H : Heap} {r : Bool × AV × Heap} (h : bodyQ B.T (sem B) (semP B) i lf (B.norm f as) H = some r) : Sem B f as H r :=
 .body f i (sem B) (semP B) lf as H r hk hi (sem_apart B) (fun _ _ _ _ h => of_sem h) (fun _ _ _ _ h => of_semP h) h
theorem sem_body {B : BookM} {f : FuncId} {i : Fi} (hi : B.fi f = some i) (hk : B.known f = none) {lf : Nat} {as : List AV} {H : Heap} {r : AV × Heap} (h : bodyQ B.T (sem B) (semP B) i lf (B.norm f as) H = some (false, r)) : sem B f as H = some r :=
 sem_of (Sem.run hi hk h)
theorem sem_known {B : BookM} {f : FuncId} {sp : Sz} (hk : B.known f = some sp) {as : List AV} {H : Heap} {r : AV × Heap} (h : sp (B.norm f as) H = some (false, r)) : sem B f as H = some r :=
 sem_of (.known f sp as H (false, r) hk h)
structure BookM.ok (B : BookM) (P : Program) : Prop where
 tab : B.T.ok P
 mixed : P.follows .mixedOrders = true
 fi : ∀ f i, B.fi f = some i → i.ok P f
 known : ∀ f sp, B.known f = some sp → OkZ P f sp
 norm : ∀ (I : Nat → Option (Array Value)) (κ : Nat → Option Loc) (f : FuncId) (as : List AV) (vs : List Value), RVs I κ as vs → RVs I κ (B.norm f as) vs
theorem OkZ.norm {P : Program} {f : FuncId} {as as' : List AV} {H : Heap} {r : Bool × AV × Heap} (hn : ∀ (I : Nat → Option (Array Value)) (κ : Nat → Option Loc) (vs : List Value), RVs I κ as vs → RVs I κ as' vs)
  {sp sp' : Sz} (hsp : sp as' H = some r) (h : OkZ P f sp) (hs : ∀ xs G q, sp' xs G = some q → xs = as ∧ G = H ∧ q = r) : OkZ P f sp' := by
 constructor
 ·
  intro xs G res G' hq I κ w vals hw hdom hr
  have hq : sp' xs G = some (false, res, G') := by
   dsimp only at hq
   split at hq
   ·
    rename_i r0 H0 h0; cases hq; exact h0
   ·
    cases hq
  obtain ⟨rfl, rfl, rfl⟩ := hs _ _ _ hq
  exact h.ret as' _ res G' (by dsimp only; rw [hsp]) I κ w vals hw hdom (hn I κ vals hr)
 ·
  intro xs G x G' hq I κ w vals hw hdom hr
  obtain ⟨rfl, rfl, rfl⟩ := hs _ _ _ hq
  exact h.pan as' _ x G' hsp I κ w vals hw hdom (hn I κ vals hr)
open Classical in
theorem Sem.ok {P : Program} {B : BookM} (hB : B.ok P) {f : FuncId} {as : List AV} {H : Heap} {r : Bool × AV × Heap} (h : Sem B f as H r) : OkZ P f fun as' H' => if as' = as ∧ H' = H then some r else none := by
 have sing : ∀ {as : List AV} {H : Heap} {r : Bool × AV × Heap}, ∀ (xs : List AV) (G : Heap) (q : Bool × AV × Heap), (if xs = as ∧ G = H then some r else none) = some q → xs = as ∧ G = H ∧ q = r := by
  intro as H r xs G q h
  split at h
  ·
   rename_i he; cases h; exact ⟨he.1, he.2, rfl⟩
  ·
   cases h
 induction h with
 | known f sp as H r hk h =>
  exact OkZ.norm (fun I κ vs hv => hB.norm I κ f as vs hv) h (hB.known f sp hk) sing
 | body f i call pan lf as H r hk hi hD hc hp h ihc ihp =>
  have hcall : CallOK P call := by
   intro g as' H' res H2 hq
   exact (ihc g as' H' _ hq).ret as' H' res H2 (by simp)
  have hpan : PanOK P pan := by
   intro g as' H' x H2 hq
   exact (ihp g as' H' _ hq).pan as' H' x H2 (by simp)
  refine OkZ.norm (fun I κ vs hv => hB.norm I κ f as vs hv) (sp := bodyQ B.T call pan i lf) h (bodyQ_ok hB.tab hcall hpan hB.mixed (hB.fi f i hi)) sing
theorem sem_norm {B : BookM} {f : FuncId} {as as' : List AV} (h : B.norm f as = B.norm f as') (G : Heap) : sem B f as G = sem B f as' G := by
 have key : ∀ {as as' : List AV}, B.norm f as = B.norm f as' → ∀ r, sem B f as G = some r → sem B f as' G = some r := by
  intro as as' h r hr
  refine sem_of ?_
  cases of_sem hr with
  | known _ sp _ _ _ hk hs => exact .known f sp as' _ _ hk (h ▸ hs)
  | body _ i call pan lf _ _ _ hk hi hD hc hp hb => exact .body f i call pan lf as' _ _ hk hi hD hc hp (h ▸ hb)
 cases ha : sem B f as G with
 | some r => exact (key h r ha).symm
 | none =>
  cases hb : sem B f as' G with
  | none => rfl
  | some r => rw [key h.symm r hb] at ha; cases ha
open Classical in
theorem sem_okZ {P : Program} {B : BookM} (hB : B.ok P) (f : FuncId) : OkZ P f fun as H => match sem B f as H with
  | some r => some (false, r)
  | none => match semP B f as H with
   | some r => some (true, r)
   | none => none := by
 constructor
 ·
  intro as H res H' h
  dsimp only at h
  cases hs : sem B f as H with
  | some r =>
   rw [hs] at h
   cases h
   exact ((of_sem hs).ok hB).ret as H _ _ (by simp)
  | none =>
   rw [hs] at h
   cases hp : semP B f as H with
   | some r => rw [hp] at h; cases h
   | none => rw [hp] at h; cases h
 ·
  intro as H x H' h
  have h : (match sem B f as H with
   | some r => some (false, r)
   | none => match semP B f as H with
    | some r => some (true, r)
    | none => none) = some (true, x, H') := h
  cases hs : sem B f as H with
  | some r => rw [hs] at h; cases h
  | none =>
   rw [hs] at h
   cases hp : semP B f as H with
   | some r =>
    rw [hp] at h
    cases h
    exact ((of_semP hp).ok hB).pan as H _ _ (by simp)
   | none => rw [hp] at h; cases h
theorem sem_ok {P : Program} {B : BookM} (hB : B.ok P) (f : FuncId) : Ok1 P f (sem B f) := by
 intro as H res H' h
 exact (sem_okZ hB f).ret as H res H' (by dsimp only; rw [h])
noncomputable def subZ {β : Type} (X : Px) (sg : Sgs β) (lf : Nat) : Code → List Nat → List (Env → Heap → Option β) → Kq β → Code × Kq β
 | .seq a b, 0 :: p, Rs, K => subZ X sg lf a p Rs (seqQ (fun env' H' => execZQ X sg lf b env' H' K) K)
 | .seq _ b, _ :: p, Rs, K => subZ X sg lf b p Rs K
 | .cond _ t _, 0 :: p, Rs, K => subZ X sg lf t p Rs K
 | .cond _ _ e, _ :: p, Rs, K => subZ X sg lf e p Rs K
 | .block id c, _ :: p, Rs, K => subZ X sg lf c p Rs (blockQ X id K)
 | .loop c, _ :: p, R :: Rs, K => subZ X sg lf c p Rs (loopQ (headOf X c) R K)
 | c, _, _, K => (c, K)
noncomputable def roundsZ {β : Type} (X : Px) (sg : Sgs β) (lf : Nat) (p : Code × Kq β) (n : Nat) (env : Env) (H : Heap) : Option β := match p.1 with
 | .loop c => iterQZ (headOf X c) (execZQ X sg lf c) p.2 n env H
 | _ => none
/-! ### By what the text comes to, told -/
section
variable {β : Type} {r : β}
def finZ (T : Tab) (i : Fi) (nl : Nat) (K : AV → Heap → Option β) : Kq β := fun x env' H' => match x with
 | .exit _ => none
 | .pan _ => none
 | _ => match fin T nl i.fn.results.toList env' H' with
  | some (v, H2) => K v H2
  | none => none
noncomputable def bodyS (T : Tab) (sg : Sgs β) (cs : Oracle) (i : Fi) (lf : Nat) (as : List AV) (H : Heap) (K : AV → Heap → Option β) : Option β :=
 execZQ (i.px T cs H.length) sg lf i.code (entry i.fn.ntmps as) H (finZ T i H.length K)
theorem bodyS_spec {T : Tab} {sg : Sgs β} {cs : Oracle} (hI : sg.Ok cs r) {pan : Oracle} (hD : Apart cs pan) {i : Fi} {lf : Nat} {as : List AV} {H : Heap} {K : AV → Heap → Option β} (h : bodyS T sg cs i lf as H K = some r) :
  ∃ v H2, bodyQ T cs pan i lf as H = some (false, v, H2) ∧ K v H2 = some r := by
 unfold bodyS at h
 obtain ⟨x, e1, H1, h1, h⟩ := execZQ_spec (X := i.px T cs H.length) hI hD _ h
 unfold finZ at h
 unfold bodyQ
 rw [h1]
 cases x with
 | exit i => cases h
 | pan y => cases h
 | normal =>
  simp only at h
  split at h
  ·
   rename_i v H2 hf
   exact ⟨_, _, by simp only [hf], h⟩
  ·
   cases h
 | ret =>
  simp only at h
  split at h
  ·
   rename_i v H2 hf
   exact ⟨_, _, by simp only [hf], h⟩
  ·
   cases h
noncomputable def inlS (T : Tab) (ty : TypeId → List Hm) (fn : FuncId → Option Sg) (cs : Oracle) (inl : FuncId → Option Fi) (lf : Nat) : Nat → Sgs β
 | 0 => ⟨ty, fn, fun _ => none⟩
 | n + 1 => ⟨ty, fn, fun g => match inl g with
  | some i => some fun as H K => bodyS T (inlS T ty fn cs inl lf n) cs i lf as H K
  | none => none⟩
theorem inlS_ok {T : Tab} {ty : TypeId → List Hm} {fn : FuncId → Option Sg} {cs : Oracle} {inl : FuncId → Option Fi} {lf : Nat} {pan : Oracle} (hD : Apart cs pan) (hc : ∀ g i, inl g = some i → ∀ as H r, bodyQ T cs pan i lf as H = some (false, r) → cs g as H = some r) :
  ∀ (n : Nat) (r : β), (inlS (β := β) T ty fn cs inl lf n).Ok cs r
 | 0, r => Sgs.ok_none rfl _ _
 | n + 1, r => by
  intro g run hg as H K h
  have hg : (match inl g with
   | some i => some fun as H K => bodyS T (inlS (β := β) T ty fn cs inl lf n) cs i lf as H K
   | none => none) = some run := hg
  split at hg
  ·
   rename_i i hi
   cases hg
   obtain ⟨v, H2, hb, h⟩ := bodyS_spec (inlS_ok hD hc n r) hD h
   exact ⟨v, H2, hc g i hi _ _ _ hb, h⟩
  ·
   cases hg
end
def endP (l : List Hm) (v : AV) (H : Heap) : Option (Hms.T l) := match snap H 12 v with
 | some v => decR l v
 | none => none
def endS (s : Sg) (v : AV) (H : Heap) : Option (Hms.T s.rs × Hbs.T s.hs) := match decR s.rs v, Hbs.dec s.hs H with
 | some x, some y => some (x, y)
 | _, _ => none
theorem pure_rule {B : BookM} {f : FuncId} {i : Fi} (hi : B.fi f = some i) (hk : B.known f = none) {l : List Hm} {sg : Sgs (Hms.T l)} {lf : Nat} {as as' : List AV} (hn : B.norm f as = as') {x : Hms.T l} (h : bodyS B.T sg (sem B) i lf as' [] (endP l) = some x) (hI : sg.Ok (sem B) x := by exact Sgs.ok_none rfl _ _) : pureS (sem B) l f as = some x := by
 subst hn
 obtain ⟨v, H2, hb, h⟩ := bodyS_spec hI (sem_apart B) h
 unfold pureS
 rw [sem_body hi hk hb]
 exact h
theorem lent_rule {B : BookM} {f : FuncId} {i : Fi} (hi : B.fi f = some i) (hk : B.known f = none) {s : Sg} {sg : Sgs (Hms.T s.rs × Hbs.T s.hs)} {lf : Nat} {as as' : List AV} (hn : B.norm f as = as') {H : Heap} {x : Hms.T s.rs × Hbs.T s.hs} (h : bodyS B.T sg (sem B) i lf as' H (endS s) = some x) (hI : sg.Ok (sem B) x := by exact Sgs.ok_none rfl _ _) : lentS (sem B) s f as H = some x := by
 subst hn
 obtain ⟨v, H2, hb, h⟩ := bodyS_spec hI (sem_apart B) h
 unfold lentS
 rw [sem_body hi hk hb]
 exact h
theorem inl_sem {B : BookM} {inl : FuncId → Option Fi} (h : ∀ g i, inl g = some i → B.fi g = some i ∧ B.known g = none ∧ ∀ as, B.norm g as = as) {lf : Nat} : ∀ g i, inl g = some i → ∀ as H r, bodyQ B.T (sem B) (semP B) i lf as H = some (false, r) → sem B g as H = some r := by
 intro g i hi as H r hb
 obtain ⟨h1, h2, h3⟩ := h g i hi
 exact sem_body h1 h2 (by rw [h3]; exact hb)
end Go.AM.S
/- The abstract machine, part S4: from what a function comes to to what a claim asks. -/
set_option linter.unusedVariables false
set_option linter.unusedSimpArgs false
namespace Go.AM.S
open Go.AM
theorem mkAgg_ne {ys : List AV} {b : Bool} : mkAgg ys ≠ .im (.bool b) := by
 unfold mkAgg
 split <;> (intro h; cases h)
theorem mkFn_ne {f : Fn} {a c : List AV} {b : Bool} : mkFn f a c ≠ .im (.bool b) := by
 unfold mkFn
 split <;> (intro h; cases h)
theorem mkIfc_ne {t : TypeId} {x : AV} {b : Bool} : mkIfc t x ≠ .im (.bool b) := by
 unfold mkIfc
 split <;> (intro h; cases h)
theorem snap_bool {H : Heap} {n : Nat} {x : AV} {b : Bool} (h : snap H n x = some (.im (.bool b))) : x = .im (.bool b) := by
 cases x with
 | im d => cases n <;> (simp [snap] at h; rw [h])
 | pe d k => cases n <;> simp [snap] at h
 | ref id o l =>
  cases n with
  | zero => simp [snap] at h
  | succ n =>
   simp only [snap] at h
   split at h
   ·
    cases h
   ·
    split at h
    ·
     split at h <;> cases h
    ·
     cases h
   ·
    cases h
 | ptr id j k =>
  cases n with
  | zero => simp [snap] at h
  | succ n =>
   simp only [snap] at h
   split at h
   ·
    split at h
    ·
     split at h <;> cases h
    ·
     cases h
   ·
    cases h
 | agg cs =>
  cases n with
  | zero => simp [snap] at h
  | succ n =>
   simp only [snap] at h
   split at h
   ·
    exact absurd (Option.some.inj h) mkAgg_ne
   ·
    cases h
 | fn f a c =>
  cases n with
  | zero => simp [snap] at h
  | succ n =>
   simp only [snap] at h
   split at h
   ·
    exact absurd (Option.some.inj h) mkFn_ne
   ·
    cases h
 | ifc t x =>
  cases n with
  | zero => simp [snap] at h
  | succ n =>
   simp only [snap] at h
   split at h
   ·
    exact absurd (Option.some.inj h) mkIfc_ne
   ·
    cases h
 | tup vs =>
  cases n with
  | zero => simp [snap] at h
  | succ n =>
   simp only [snap] at h
   try (split at h <;> simp at h)
 | mp i => cases n <;> simp [snap] at h
 | bad => cases n <;> simp [snap] at h
theorem topS {P : Program} {B : BookM} (hB : B.ok P) {f : FuncId} {fn : Func} {code : Code} (hget : P.funcs[f]? = some fn) (hname : (fn.name == "runtime.NumGoroutine") = false) (hbody : fn.body = some code)
  {as : List AV} {vals : List Value} {w : World} {b : Bool} (hv : RVs (imm w) (fun _ => none) as vals) (hw : pureS (sem B) [.bool] f as = some (b, ())) :
  Calls P f vals.toArray w fun x w' => x = .returned (.bool b) ∧ RowKit.Below w.heap.size w w' := by
 unfold pureS at hw
 split at hw
 ·
  rename_i res H' hs
  split at hw
  ·
   rename_i v hsn
   have := decR_eq hw
   subst this
   have hres : res = .im (.bool b) := snap_bool hsn
   subst hres
   have := sem_ok hB f as [] _ H' hs (imm w) (fun _ => none) w vals (imm_wr w) (fun _ _ h => by simp at h) hv
   have hrun : (callFunc f vals.toArray).run P w = .ok (.enter f vals.toArray) w := by
    have h1 : ¬ fn.name = "runtime.NumGoroutine" := by simpa using hname
    simp [callFunc, hget, h1, hbody]
   rw [hrun] at this
   have this : Calls P f vals.toArray w _ := this
   refine this.mono fun x w' h => ?_
   cases x with
   | returned v =>
    obtain ⟨I', κ', s⟩ := h
    refine ⟨?_, s.mv.os, s.mv.tape, s.mv.output, s.mv.size, fun b hb => s.mv.block b hb (by rintro ⟨_, _, _, _, _, h2⟩; simp at h2)⟩
    cases s.env with
    | cons _ _ _ _ h1 _ =>
     cases h1 with
     | im _ _ h1 => cases h1; rfl
   | _ => exact h.elim
  ·
   cases hw
 ·
  cases hw
end Go.AM.S
/- The abstract machine, part S9: rules for calls whose arguments hold pointers that do not stay; what is known. -/
set_option linter.unusedVariables false
set_option linter.unusedSimpArgs false
namespace Go.AM.S
open Go.AM
theorem mkAgg_nei {ys : List AV} {k : IntKind} {b : Int} : mkAgg ys ≠ .im (.int k b) := by
 unfold mkAgg
 split <;> (intro h; cases h)
theorem mkFn_nei {f : Fn} {a c : List AV} {k : IntKind} {b : Int} : mkFn f a c ≠ .im (.int k b) := by
 unfold mkFn
 split <;> (intro h; cases h)
theorem mkIfc_nei {t : TypeId} {x : AV} {k : IntKind} {b : Int} : mkIfc t x ≠ .im (.int k b) := by
 unfold mkIfc
 split <;> (intro h; cases h)
theorem snap_int {H : Heap} {n : Nat} {x : AV} {k : IntKind} {b : Int} (h : snap H n x = some (.im (.int k b))) : x = .im (.int k b) := by
 cases x with
 | im d => cases n <;> (simp [snap] at h; rw [h])
 | pe d k => cases n <;> simp [snap] at h
 | ref id o l =>
  cases n with
  | zero => simp [snap] at h
  | succ n =>
   simp only [snap] at h
   split at h
   ·
    cases h
   ·
    split at h
    ·
     split at h <;> cases h
    ·
     cases h
   ·
    cases h
 | ptr id j k =>
  cases n with
  | zero => simp [snap] at h
  | succ n =>
   simp only [snap] at h
   split at h
   ·
    split at h
    ·
     split at h <;> cases h
    ·
     cases h
   ·
    cases h
 | agg cs =>
  cases n with
  | zero => simp [snap] at h
  | succ n =>
   simp only [snap] at h
   split at h
   ·
    exact absurd (Option.some.inj h) mkAgg_nei
   ·
    cases h
 | fn f a c =>
  cases n with
  | zero => simp [snap] at h
  | succ n =>
   simp only [snap] at h
   split at h
   ·
    exact absurd (Option.some.inj h) mkFn_nei
   ·
    cases h
 | ifc t x =>
  cases n with
  | zero => simp [snap] at h
  | succ n =>
   simp only [snap] at h
   split at h
   ·
    exact absurd (Option.some.inj h) mkIfc_nei
   ·
    cases h
 | tup vs =>
  cases n with
  | zero => simp [snap] at h
  | succ n =>
   simp only [snap] at h
   try (split at h <;> simp at h)
 | mp i => cases n <;> simp [snap] at h
 | bad => cases n <;> simp [snap] at h
theorem plain_bool {cs : Oracle} {g : FuncId} {as : List AV} {b : Bool} (h : pureS cs [.bool] g as = some (b, ())) : plainS cs [.bool] g as = some (b, ()) := by
 unfold pureS at h
 unfold plainS
 split at h
 ·
  rename_i res H' hc
  split at h
  ·
   rename_i v hs
   have := decR_eq h
   subst this
   have : res = .im (.bool b) := snap_bool hs
   subst this
   simp [plainR, AV.plain, D.plain, decR, Hm.dec]
  ·
   cases h
 ·
  cases h
theorem plain_int {cs : Oracle} {g : FuncId} {as : List AV} {k : IntKind} {n : Int} (h : pureS cs [.int k] g as = some (n, ())) : plainS cs [.int k] g as = some (n, ()) := by
 have h0 := h
 unfold pureS at h
 unfold plainS
 split at h
 ·
  rename_i res H' hc
  split at h
  ·
   rename_i v hs
   have := decR_eq h
   subst this
   have : res = .im (.int k n) := snap_int hs
   subst this
   simp only [plainR, AV.plain, D.plain, if_true]
   exact h
  ·
   cases h
 ·
  cases h
theorem pure_known {B : BookM} {f : FuncId} {sp : Sz} (hk : B.known f = some sp) {l : List Hm} {as : List AV} {res : AV} {H' : Heap} {v : AV} {x : Hms.T l} (h : sp (B.norm f as) [] = some (false, res, H')) (hs : snap H' 12 res = some v) (hd : decR l v = some x) : pureS (sem B) l f as = some x := by
 unfold pureS
 rw [sem_known hk h]
 dsimp only
 rw [hs]
 exact hd
theorem lent_known {B : BookM} {f : FuncId} {sp : Sz} (hk : B.known f = some sp) {s : Sg} {as : List AV} {H : Heap} {res : AV} {H' : Heap} {x : Hms.T s.rs} {y : Hbs.T s.hs} (h : sp (B.norm f as) H = some (false, res, H')) (hd : decR s.rs res = some x) (hh : Hbs.dec s.hs H' = some y) : lentS (sem B) s f as H = some (x, y) := by
 unfold lentS
 rw [sem_known hk h]
 dsimp only
 rw [hd, hh]
end Go.AM.S