/- Texts joined into one: Br0 Br1. -/
import Derived.Test.YtankppgafdcknaaKc
import Derived.Test.YtankppgafdcknaaKw
/- The bridge, part 0: what the kit's printed contracts read (Kd) is the machine's data, and the other way round. -/
set_option linter.unusedVariables false
set_option linter.unusedSimpArgs false
namespace Go.AM
open Go.Proofs.YtankppgafdcknaaW.PrintWords Go.RowKit

/-- The blocks of ok, as they stand. -/
noncomputable def immP (ok : Nat → Prop) (w : World) (b : Nat) : Option (Array Value) := open Classical in if ok b then imm w b else none
theorem immP_imm {ok : Nat → Prop} {w : World} {b : Nat} {c : Array Value} (h : immP ok w b = some c) : ok b ∧ imm w b = some c := by
  unfold immP at h
  split at h
  · rename_i hb; exact ⟨hb, h⟩
  · cases h
theorem immP_mk {ok : Nat → Prop} {w : World} {b : Nat} {c : Array Value} (hb : ok b) (h : imm w b = some c) : immP ok w b = some c := by
  unfold immP
  rw [if_pos hb]
  exact h
/-- All but the blocks of ok is struck. -/
noncomputable def wipe (ok : Nat → Prop) (w : World) : World := open Classical in { w with heap := w.heap.mapIdx fun k o => if ok k then o else .pending #[] 0 }
theorem wipe_get (ok : Nat → Prop) (w : World) (k : Nat) (h : ok k) : (wipe ok w).heap[k]? = w.heap[k]? := by
  unfold wipe
  simp only [Array.getElem?_mapIdx, h, if_true]
  cases w.heap[k]? <;> rfl
theorem wipe_imm {ok : Nat → Prop} {w : World} {b : Nat} {c : Array Value} (h : imm (wipe ok w) b = some c) : immP ok w b = some c := by
  by_cases hb : ok b
  · refine immP_mk hb ?_
    unfold imm at h ⊢
    rw [wipe_get ok w b hb] at h
    exact h
  · exfalso
    unfold imm wipe at h
    simp only [Array.getElem?_mapIdx, hb, if_false] at h
    cases hk : w.heap[b]? with
    | none => rw [hk] at h; cases h
    | some o => rw [hk] at h; cases h

/-- A kind's values as data. -/
structure Br {α : Type} (d : Kd α) where
  el : α → D
  pos : 0 < d.sz
  len : ∀ x, (el x).cells.length = d.sz
  inn : ∀ {w x cs}, d.K w x cs → RDs (imm w) (el x).cells cs
  fit : α → Prop
  out : ∀ {I : Nat → Option (Array Value)} {w : World} {x : α} {cs : List Value}, (∀ b c, I b = some c → imm w b = some c) → fit x → RDs I (el x).cells cs → Kd.FK d w (fun b => ∃ c, I b = some c) x cs
section
variable {α : Type} {d : Kd α} (B : Br d)
theorem Br.innP {w : World} {ok : Nat → Prop} {x : α} {cs : List Value} (h : Kd.FK d w ok x cs) : RDs (immP ok w) (B.el x).cells cs :=
  (B.inn (h (wipe ok w) (fun k hk _ => wipe_get ok w k hk))).mono fun _ _ hb => wipe_imm hb
theorem cell_at {w : World} {ad : Addr} {i : Nat} {u : Value} (h : w.cell? (ad.add i) = some u) : ∃ c T fr, w.heap[ad.block]? = some (.cells c T fr) ∧ c[ad.off + i]? = some u ∧ (i = 0 → ad.spot = none) := by
  unfold World.cell? at h
  have hb : (ad.add i).block = ad.block := by unfold Addr.add; split <;> rfl
  have ho : (ad.add i).off = ad.off + i := by
    unfold Addr.add
    split
    · rename_i h0; simp [h0]
    · rfl
  rw [hb] at h
  split at h
  · rename_i c T fr hc
    split at h
    · cases h
    · rename_i hs
      rw [ho] at h
      refine ⟨c, T, fr, hc, h, fun h0 => ?_⟩
      subst h0
      simpa [Addr.add] using hs
  · cases h
theorem Br.cells {w : World} {ad : Addr} : ∀ (ys : List α) (j0 : Nat),
    (∀ j p, ys[j]? = some p → ∃ c, c.length = d.sz ∧ d.K w p c ∧ ∀ i u, c[i]? = some u → w.cell? (ad.add ((j0 + j) * d.sz + i)) = some u) →
    ∃ vs, RDs (imm w) ((ys.map B.el).flatMap D.cells) vs ∧ vs.length = ys.length * d.sz ∧ ∀ i u, vs[i]? = some u → w.cell? (ad.add (j0 * d.sz + i)) = some u
  | [], j0, h => ⟨[], .nil, by simp, fun i u hu => by simp at hu⟩
  | y :: ys, j0, h => by
    obtain ⟨c, hl, hk, hc⟩ := h 0 y rfl
    obtain ⟨vs, h1, h2, h3⟩ := Br.cells ys (j0 + 1) fun j p hp => by
      obtain ⟨c', h1, h2, h3⟩ := h (j + 1) p (by simpa using hp)
      exact ⟨c', h1, h2, fun i u hu => by rw [show j0 + 1 + j = j0 + (j + 1) by omega]; exact h3 i u hu⟩
    refine ⟨c ++ vs, ?_, by simp [hl, h2, Nat.succ_mul]; omega, fun i u hu => ?_⟩
    · simp only [List.map_cons, List.flatMap_cons]
      exact (B.inn hk).append h1
    · rcases Nat.lt_or_ge i d.sz with hi | hi
      · rw [List.getElem?_append_left (by omega)] at hu
        simpa using hc i u hu
      · rw [List.getElem?_append_right (by omega), hl] at hu
        have := h3 _ u hu
        rw [show (j0 + 1) * d.sz + (i - d.sz) = j0 * d.sz + i by rw [Nat.succ_mul]; omega] at this
        exact this
theorem Br.row {w : World} {A : Option Addr} {n c : Nat} {xs : List α} (h : d.C w A n xs) : RD (imm w) (.sl false d.sz (xs.map B.el)) (.slice A n c) ∨ c < n := by
  by_cases hc : c < n
  · exact .inr hc
  refine .inl ?_
  obtain ⟨hl, hm, hr⟩ := h
  rcases Nat.eq_zero_or_pos n with h0 | h0
  · subst h0
    obtain rfl : xs = [] := List.eq_nil_of_length_eq_zero hl
    exact .sle _ A c B.pos
  · obtain ⟨ad, rfl, hcell⟩ := hr h0
    obtain ⟨vs, h1, h2, h3⟩ := B.cells (w := w) (ad := ad) xs 0 (fun j p hp => by simpa using hcell j p hp)
    have hp : 0 < vs.length := by rw [h2, hl]; exact Nat.mul_pos h0 B.pos
    obtain ⟨cs, T, fr, hb, _, hs⟩ := cell_at (h3 0 _ (List.getElem?_eq_getElem hp))
    have hs := hs (by simp)
    have had : ad = ⟨ad.block, ad.off, none⟩ := by cases ad; simp_all
    have := RD.sl (I := imm w) false d.sz (xs.map B.el) ad.block ad.off c cs vs B.pos (by unfold imm; rw [hb]) h1 (fun i x hx => by
      obtain ⟨cs', T', fr', hb', hx', _⟩ := cell_at (h3 i x hx)
      rw [hb] at hb'
      cases hb'
      simpa using hx') (fun x hx => by
      obtain ⟨y, _, rfl⟩ := List.mem_map.1 hx
      exact B.len y) (by simp) (by simp; omega)
    rw [List.length_map, hl] at this
    rw [had]
    exact this
theorem Br.rowF {w : World} {ok : Nat → Prop} {A : Option Addr} {n c : Nat} {xs : List α} (h : Kd.F d w ok A n xs) (hc : n ≤ c) : RD (immP ok w) (.sl false d.sz (xs.map B.el)) (.slice A n c) := by
  rcases B.row (c := c) (h (wipe ok w) (fun k hk _ => wipe_get ok w k hk)) with h | h
  · exact h.mono fun _ _ hb => wipe_imm hb
  · omega
theorem Br.rowV {w : World} {ok : Nat → Prop} {e base : Nat} {v : Value} {xs : List α} (h : Kd.V d e w base ok v xs) : RD (immP ok w) (.sl false d.sz (xs.map B.el)) v := by
  obtain ⟨A, c, rfl, hl, hf⟩ := h
  exact B.rowF hf hl
/-- A row that is data, as the kit reads it. -/
theorem Br.back {I : Nat → Option (Array Value)} {w : World} {t : Bool} {v : Value} {xs : List α} (hI : ∀ b c, I b = some c → imm w b = some c) (hn : xs.length ≤ 9223372036854775807) (hf : ∀ x ∈ xs, B.fit x)
    (h : RD I (.sl t d.sz (xs.map B.el)) v) : ∃ A c, v = .slice A xs.length c ∧ xs.length ≤ c ∧ Kd.F d w (fun b => ∃ c, I b = some c) A xs.length xs := by
  have empty : xs = [] → ∀ A, Kd.F d w (fun b => ∃ c, I b = some c) A xs.length xs := by
    rintro rfl A W' _
    exact ⟨rfl, by simp, fun h => by simp at h⟩
  generalize hes : xs.map B.el = es at h
  cases h with
  | slnil =>
    have : xs = [] := by simpa using hes
    exact ⟨none, 0, by rw [this]; rfl, by rw [this]; simp, empty this _⟩
  | slz _ _ a =>
    have : xs = [] := by simpa using hes
    exact ⟨some a, 0, by rw [this]; rfl, by rw [this]; simp, empty this _⟩
  | sle _ A n =>
    have : xs = [] := by simpa using hes
    exact ⟨A, n, by rw [this]; rfl, by rw [this]; simp, empty this _⟩
  | sl _ _ _ b off cap c vs h0 h1 h2 h3 h4 h5 h6 =>
    subst hes
    refine ⟨some ⟨b, off, none⟩, cap, by rw [List.length_map], by simpa using h6, fun W' hW => ⟨rfl, hn, fun _ => ⟨_, rfl, fun j p hp => ?_⟩⟩⟩
    have hj : j < xs.length := by
      rcases Nat.lt_or_ge j xs.length with h | h
      · exact h
      · rw [List.getElem?_eq_none h] at hp; cases hp
    have hpe : (xs.map B.el)[j]? = some (B.el p) := by simp [hp]
    have hseg : (((xs.map B.el).flatMap D.cells).drop (j * d.sz)).take d.sz = (B.el p).cells := by
      apply List.ext_getElem?
      intro k
      rcases Nat.lt_or_ge k d.sz with hk | hk
      · rw [List.getElem?_take, if_pos hk, List.getElem?_drop, flat_get _ d.sz _ h4 j k _ hpe hk]
      · rw [List.getElem?_take, if_neg (by omega), List.getElem?_eq_none (by rw [B.len]; omega)]
    have hr : RDs I (B.el p).cells ((vs.drop (j * d.sz)).take d.sz) := by
      rw [← hseg]
      exact (h2.drop _).take _
    refine ⟨_, by rw [hr.length, B.len], B.out hI (hf p (List.mem_of_getElem? hp)) hr W' hW, fun i u hu => ?_⟩
    have hi : i < d.sz := by
      rcases Nat.lt_or_ge i d.sz with h | h
      · exact h
      · simp [List.getElem?_take, show ¬ i < d.sz by omega] at hu
    simp [List.getElem?_take, hi] at hu
    have hc := h3 _ _ hu
    have hb := hI _ _ h1
    unfold imm at hb
    split at hb
    · rename_i c' T fr hw
      cases hb
      have hlt : b < w.heap.size := by
        rcases Nat.lt_or_ge b w.heap.size with h | h
        · exact h
        · rw [Array.getElem?_eq_none h] at hw; cases hw
      have hw' := (hW b ⟨_, h1⟩ hlt).trans hw
      rw [addr_add]
      simp only [World.cell?, hw']
      simpa using hc
    · cases hb
end
def Br.int (k : IntKind) : Br (Kd.int k) where
  el := fun x => .int k x
  pos := Nat.zero_lt_one
  len := fun _ => rfl
  inn := fun {w x cs} h => by
    have h : cs = [Value.int k x] := h
    subst h
    exact .cons _ _ _ _ (.int _ _) .nil
  fit := fun _ => True
  out := fun {I w x cs} _ _ h => by
    cases h with
    | cons _ _ _ _ h1 h2 =>
      cases h1
      cases h2
      exact fun _ _ => rfl
def Br.bool : Br Kd.bool where
  el := fun x => .bool x
  pos := Nat.zero_lt_one
  len := fun _ => rfl
  inn := fun {w x cs} h => by
    have h : cs = [Value.bool x] := h
    subst h
    exact .cons _ _ _ _ (.bool _) .nil
  fit := fun _ => True
  out := fun {I w x cs} _ _ h => by
    cases h with
    | cons _ _ _ _ h1 h2 =>
      cases h1
      cases h2
      exact fun _ _ => rfl
def Br.slice {α : Type} {d : Kd α} (e : Nat) (B : Br d) : Br (Kd.slice e d) where
  el := fun xs => .sl false d.sz (xs.map B.el)
  pos := Nat.zero_lt_one
  len := fun _ => rfl
  inn := fun {w xs cs} h => by
    obtain ⟨A, c, rfl, hl, hC⟩ := h
    rcases B.row (c := c) hC with h | h
    · exact .cons _ _ _ _ h .nil
    · omega
  fit := fun xs => xs.length ≤ 9223372036854775807 ∧ ∀ x ∈ xs, B.fit x
  out := fun {I w xs cs} hI hf h => by
    cases h with
    | cons _ _ _ _ h1 h2 =>
      cases h2
      obtain ⟨A, c, rfl, hl, hF⟩ := B.back hI hf.1 hf.2 h1
      exact fun W' hW => ⟨A, c, rfl, hl, hF W' hW⟩
end Go.AM

/- The bridge, part 1: from a contract of the machine to one of the kit, and back. -/
set_option linter.unusedVariables false
set_option linter.unusedSimpArgs false
namespace Go.AM
open Go.Proofs.YtankppgafdcknaaW.PrintWords Go.RowKit

theorem immP_wr (ok : Nat → Prop) (w : World) : WR (immP ok w) (fun _ => none) [] w := by
  refine ⟨fun b c h => ?_, fun _ _ h => by simp at h, fun _ _ _ _ _ _ _ _ _ _ _ h => by simp at h, fun _ _ _ _ _ _ h => by simp at h⟩
  have h := (immP_imm h).2
  unfold imm at h
  split at h
  · rename_i c' T fz hb
    simp at h
    subst h
    exact ⟨T, fz, hb⟩
  · cases h
/-- A function that hands back data, told in the kit's way. -/
theorem calls_of {P : Program} (e : Entry P) {fn : Func} {code : Code} (hget : P.funcs[e.id]? = some fn) (hname : (fn.name == "runtime.NumGoroutine") = false) (hbody : fn.body = some code)
    {az : List AV} {vals : List Value} {w : World} {ok : Nat → Prop} {R : D → Prop} (hv : RVs (immP ok w) (fun _ => none) az vals) (hw : e.w az [] fun res _ => ∃ d, res = .im d ∧ R d) :
    Calls P e.id vals.toArray w fun x w' => ∃ v d I, x = .returned v ∧ R d ∧ RD I d v ∧ (∀ b c, I b = some c → imm w' b = some c) ∧ (∀ b c, I b = some c → ok b ∨ w.heap.size ≤ b) ∧ Below w.heap.size w w' := by
  obtain ⟨res, H', hs, d, rfl, hR⟩ := e.rel az [] _ hw
  have := e.ok az [] _ H' hs (immP ok w) (fun _ => none) w vals (immP_wr ok w) (fun _ _ h => by simp at h) hv
  have hrun : (callFunc e.id vals.toArray).run P w = .ok (.enter e.id vals.toArray) w := by
    have h1 : ¬ fn.name = "runtime.NumGoroutine" := by simpa using hname
    simp [callFunc, hget, h1, hbody]
  rw [hrun] at this
  have this : Calls P e.id vals.toArray w _ := this
  refine this.mono fun x w' h => ?_
  cases x with
  | returned v =>
    obtain ⟨I', κ', s⟩ := h
    have hno : ∀ b, ¬ lentOf (fun _ => none) b := by rintro b ⟨_, _, _, _, _, h2⟩; simp at h2
    refine ⟨v, d, I', rfl, hR, ?_, fun b c hb => ?_, fun b c hb => ?_, s.mv.os, s.mv.tape, s.mv.output, s.mv.size, fun b hb => s.mv.block b hb (hno b)⟩
    · cases s.env with
      | cons _ _ _ _ h1 _ => cases h1 with | im _ _ h1 => exact h1
    · obtain ⟨T, fr, hc⟩ := s.wr.im _ _ hb
      unfold imm
      rw [hc]
    · rcases s.mv.inew _ _ hb with h | h | h
      · exact .inl (immP_imm h).1
      · exact absurd h (hno b)
      · exact .inr h
  | _ => exact h.elim
/-- A function of the kit's contract, of one row of data, that hands back new rows: in the machine. -/
noncomputable def rowE {P : Program} {α β : Type} {d : Kd α} {d' : Kd β} (B : Br d) (B' : Br d') (f : FuncId) (fn : Func) (code : Code) (hget : P.funcs[f]? = some fn) (hname : (fn.name == "runtime.NumGoroutine") = false) (hbody : fn.body = some code)
    (g : List α → Prop) (post : List α → List β) (hinj : ∀ x y, B.el x = B.el y → x = y) (hfit : ∀ xs, xs.length ≤ 9223372036854775807 → g xs → (∀ x ∈ xs, B.fit x))
    (hc : ∀ (A : Option Addr) (c : Nat) (xs : List α) (w : World), d.C w A xs.length xs → xs.length ≤ c → g xs →
      Calls P f #[.slice A xs.length c] w fun e w' => ∃ v, e = .returned v ∧ (∃ A' c', v = .slice A' (post xs).length c' ∧ (post xs).length ≤ c' ∧ Kd.F d' w' (fun b => w.heap.size ≤ b) A' (post xs).length (post xs)) ∧ Below w.heap.size w w') : Entry P where
  id := f
  sp := fun as H => open Classical in if h : ∃ xs : List α, as = [.im (.sl false d.sz (xs.map B.el))] ∧ H = [] ∧ xs.length ≤ 9223372036854775807 ∧ g xs then some (.im (.sl false d'.sz ((post h.choose).map B'.el)), []) else none
  w := fun as H K => ∃ xs : List α, as = [.im (.sl false d.sz (xs.map B.el))] ∧ H = [] ∧ xs.length ≤ 9223372036854775807 ∧ g xs ∧ K (.im (.sl false d'.sz ((post xs).map B'.el))) []
  ok := by
    intro as H res H' hs I κ w vals hwr hdom hr
    simp only at hs
    split at hs
    · rename_i h
      simp only [Option.some.injEq, Prod.mk.injEq] at hs
      obtain ⟨rfl, rfl⟩ := hs
      obtain ⟨e1, rfl, hn, hg⟩ := h.choose_spec
      generalize h.choose = xs at e1 hn hg
      subst e1
      cases hr with
      | cons _ _ v _ h1 h2 =>
      cases h2
      cases h1 with
      | im _ _ h1 =>
      have hI : ∀ b c, I b = some c → imm w b = some c := fun b c hb => by
        obtain ⟨T, fr, hc⟩ := hwr.im _ _ hb
        unfold imm
        rw [hc]
      obtain ⟨A, c, rfl, hl, hF⟩ := B.back hI hn (hfit xs hn hg) h1
      have hrun : (callFunc f #[.slice A xs.length c]).run P w = .ok (.enter f #[.slice A xs.length c]) w := by
        have h1 : ¬ fn.name = "runtime.NumGoroutine" := by simpa using hname
        simp [callFunc, hget, h1, hbody]
      show Goes P ((callFunc f #[.slice A xs.length c]).run P w) _
      rw [hrun]
      show Calls P f #[.slice A xs.length c] w _
      refine (hc A c xs w (Kd.F_now hF) hl hg).mono fun x w' h => ?_
      obtain ⟨v', rfl, ⟨A', c', rfl, hl', hF'⟩, hb⟩ := h
      have hrd := B'.rowF hF' hl'
      have hmono : ∀ b c, I b = some c → w'.heap[b]? = w.heap[b]? := fun b c hb' => by
        obtain ⟨T, fr, hc⟩ := hwr.im _ _ hb'
        refine hb.block b ?_
        rcases Nat.lt_or_ge b w.heap.size with h | h
        · exact h
        · rw [Array.getElem?_eq_none h] at hc; cases hc
      let I' : Nat → Option (Array Value) := fun b => if b < w.heap.size then I b else imm w' b
      have hsub : ∀ b c, immP (fun b => w.heap.size ≤ b) w' b = some c → I' b = some c := fun b c h => by
        obtain ⟨h1, h2⟩ := immP_imm h
        show (if b < w.heap.size then I b else imm w' b) = some c
        rw [if_neg (by omega)]
        exact h2
      have him : ∀ b c, I b = some c → I' b = some c := fun b c h => by
        show (if b < w.heap.size then I b else imm w' b) = some c
        obtain ⟨T, fr, hc⟩ := hwr.im _ _ h
        rw [if_pos]
        · exact h
        · rcases Nat.lt_or_ge b w.heap.size with h | h
          · exact h
          · rw [Array.getElem?_eq_none h] at hc; cases hc
      have hκ : ∀ i l, κ i ≠ some l := fun i l h => by
        obtain ⟨blk, h2, _⟩ := hwr.own _ _ h
        simp at h2
      refine ⟨I', κ, ⟨fun b c h => ?_, fun i l h => absurd h (hκ _ _), fun i _ _ _ _ _ _ _ _ _ _ h => absurd h (hκ _ _), fun i _ _ _ _ _ h => absurd h (hκ _ _)⟩, .cons _ _ _ _ (.im _ _ (hrd.mono hsub)) .nil,
        ⟨hb.os, hb.tape, hb.output, hb.size, fun b h _ => hb.block b h, him, fun b c h => ?_⟩, fun i _ _ _ _ _ h => absurd h (hκ _ _), fun i blk h => by simp at h, rfl, fun i hi => by simp at hi, Nat.zero_le _⟩
      · have h : (if b < w.heap.size then I b else imm w' b) = some c := h
        split at h
        · obtain ⟨T, fr, hc⟩ := hwr.im _ _ h
          exact ⟨T, fr, (hmono _ _ h).trans hc⟩
        · unfold imm at h
          split at h
          · rename_i c' T fr hc
            cases h
            exact ⟨T, fr, hc⟩
          · cases h
      · have h : (if b < w.heap.size then I b else imm w' b) = some c := h
        split at h
        · exact .inl h
        · exact .inr (.inr (by omega))
    · cases hs
  rel := by
    intro as H K ⟨xs, h1, h2, h3, h4, hK⟩
    have hx : ∃ xs : List α, as = [.im (.sl false d.sz (xs.map B.el))] ∧ H = [] ∧ xs.length ≤ 9223372036854775807 ∧ g xs := ⟨xs, h1, h2, h3, h4⟩
    refine ⟨_, _, by simp only [dif_pos hx]; rfl, ?_⟩
    have : hx.choose = xs := by
      have h5 := h1.symm.trans hx.choose_spec.1
      simp only [List.cons.injEq, AV.im.injEq, D.sl.injEq, true_and, and_true] at h5
      exact ((List.map_inj_right (fun x y h => hinj x y h)).1 h5).symm
    rw [this]
    exact hK
/-- An entry, told by a signature. -/
noncomputable def Entry.cast {P : Program} (e : Entry P) (sig : Sig) (F : Fw sig) (hF : ∀ x Q, F x Q → e.w (Ars.enc sig.args x) [] (endK sig Q)) : Entry P where
  id := e.id
  sp := spS sig e.sp
  w := adW sig F
  ok := spS_ok e.ok
  rel := by
    intro as H K h
    unfold adW at h
    split at h
    · obtain ⟨x, hx, h⟩ := Ars.dec_spec h
      obtain ⟨res, H', hs, h⟩ := e.rel _ _ _ (hF _ _ h)
      unfold endK at h
      split at h
      · rename_i v hv
        obtain ⟨y, hy, h⟩ := decR_spec h
        refine ⟨_, _, ?_, h⟩
        unfold spS
        simp only [hx, hs, hv, hy]
      · exact h.elim
    · exact h.elim
end Go.AM
