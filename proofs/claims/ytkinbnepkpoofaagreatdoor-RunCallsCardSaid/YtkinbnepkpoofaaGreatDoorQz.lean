/- Texts joined into one: RCD RCB. -/
import Derived.Test.YtkinbnepkpoofaaGreatDoorRd
import Derived.Test.YtkinbnepkpoofaaGreatDoorKe
/- Shared parts. -/
set_option maxRecDepth 1000000
set_option linter.unusedVariables false
open Go Go.AM
namespace Go.Proofs.YtkinbnepkpoofaaGreatDoor
abbrev Ent : Type := List AV × Heap × (Bool × AV × Heap)
noncomputable abbrev rE (B : BookR Tryz.prog T) (f : Nat) (e : Ent) : Option (Bool × AV × Heap) := runK B 1000 70 f e.1 e.2.1
theorem fA {α : Type} {p : α → Prop} {a : α} {l : List α} (h : p a) (hl : ∀ x ∈ l, p x) : ∀ x ∈ a :: l, p x := List.forall_mem_cons.2 ⟨h, hl⟩
theorem nA {α : Type} {p : α → Prop} : ∀ x ∈ ([] : List α), p x := fun _ h => nomatch h
def RCc0 : D := .sl true 7 [(.agg [(.int .i64 3), (.int .i64 0), (.str [114]), (.str [102]), (.sl true 5 [(.agg [(.int .i64 4), (.str [45]), (.int .i64 0), (.str []), (.sl true 5 [(.agg [(.int .i64 1), (.str []), (.int .i64 0), (.str [110]), (.sl true 0 [])]), (.agg [(.int .i64 0), (.str []), (.int .i64 1), (.str []), (.sl true 0 [])])])])]), (.sl true 0 []), (.sl true 0 [])])]
def RCc1 : D := .sl true 7 [(.agg [(.int .i64 4), (.int .i64 0), (.str []), (.str []), (.sl true 5 [(.agg [(.int .i64 1), (.str []), (.int .i64 0), (.str [110]), (.sl true 0 [])])]), RCc0, (.sl true 0 [])]), (.agg [(.int .i64 8), (.int .i64 0), (.str []), (.str []), (.sl true 5 [(.agg [(.int .i64 4), (.str [43]), (.int .i64 0), (.str []), (.sl true 5 [(.agg [(.int .i64 1), (.str []), (.int .i64 0), (.str [114]), (.sl true 0 [])]), (.agg [(.int .i64 1), (.str []), (.int .i64 0), (.str [110]), (.sl true 0 [])])])])]), (.sl true 0 []), (.sl true 0 [])])]
def RCc2 : D := .sl true 5 [(.agg [(.int .i64 0), (.str []), (.int .i64 0), (.str []), (.sl true 0 [])])]
def RCc3 : D := .sl true 7 [(.agg [(.int .i64 3), (.int .i64 0), (.str [97]), (.str [102]), RCc2, (.sl true 0 []), (.sl true 0 [])]), (.agg [(.int .i64 8), (.int .i64 1), (.str []), (.str []), RCc2, (.sl true 0 []), (.sl true 0 [])])]
def RCc4 : D := .sl true 7 [(.agg [(.int .i64 3), (.int .i64 0), (.str [97]), (.str [102]), (.sl true 5 [(.agg [(.int .i64 0), (.str []), (.int .i64 1), (.str []), (.sl true 0 [])])]), (.sl true 0 []), (.sl true 0 [])]), (.agg [(.int .i64 8), (.int .i64 1), (.str []), (.str []), RCc2, (.sl true 0 []), (.sl true 0 [])])]
def RCc5 : D := .sl true 7 [(.agg [(.int .i64 3), (.int .i64 0), (.str [97]), (.str [102]), (.sl true 5 [(.agg [(.int .i64 0), (.str []), (.int .i64 2), (.str []), (.sl true 0 [])])]), (.sl true 0 []), (.sl true 0 [])]), (.agg [(.int .i64 8), (.int .i64 1), (.str []), (.str []), RCc2, (.sl true 0 []), (.sl true 0 [])])]
def RCc6 : D := .sl true 7 [(.agg [(.int .i64 3), (.int .i64 0), (.str [97]), (.str [102]), (.sl true 5 [(.agg [(.int .i64 0), (.str []), (.int .i64 3), (.str []), (.sl true 0 [])])]), (.sl true 0 []), (.sl true 0 [])]), (.agg [(.int .i64 8), (.int .i64 1), (.str []), (.str []), RCc2, (.sl true 0 []), (.sl true 0 [])])]
def RCc7 : D := .sl true 7 [(.agg [(.int .i64 3), (.int .i64 0), (.str [97]), (.str [102]), (.sl true 5 [(.agg [(.int .i64 0), (.str []), (.int .i64 4), (.str []), (.sl true 0 [])])]), (.sl true 0 []), (.sl true 0 [])]), (.agg [(.int .i64 8), (.int .i64 1), (.str []), (.str []), RCc2, (.sl true 0 []), (.sl true 0 [])])]
def RCc8 : D := .sl true 7 [(.agg [(.int .i64 3), (.int .i64 0), (.str [97]), (.str [102]), (.sl true 5 [(.agg [(.int .i64 0), (.str []), (.int .i64 5), (.str []), (.sl true 0 [])])]), (.sl true 0 []), (.sl true 0 [])]), (.agg [(.int .i64 8), (.int .i64 1), (.str []), (.str []), RCc2, (.sl true 0 []), (.sl true 0 [])])]
def RCc9 : D := .sl true 7 [(.agg [(.int .i64 3), (.int .i64 0), (.str [97]), (.str [102]), (.sl true 5 [(.agg [(.int .i64 0), (.str []), (.int .i64 6), (.str []), (.sl true 0 [])])]), (.sl true 0 []), (.sl true 0 [])]), (.agg [(.int .i64 8), (.int .i64 1), (.str []), (.str []), RCc2, (.sl true 0 []), (.sl true 0 [])])]
def RCc10 : D := .sl true 7 [(.agg [(.int .i64 3), (.int .i64 0), (.str [97]), (.str [102]), (.sl true 5 [(.agg [(.int .i64 0), (.str []), (.int .i64 7), (.str []), (.sl true 0 [])])]), (.sl true 0 []), (.sl true 0 [])]), (.agg [(.int .i64 8), (.int .i64 1), (.str []), (.str []), RCc2, (.sl true 0 []), (.sl true 0 [])])]
def RCc11 : D := .sl true 7 [(.agg [(.int .i64 3), (.int .i64 0), (.str [97]), (.str [102]), (.sl true 5 [(.agg [(.int .i64 0), (.str []), (.int .i64 8), (.str []), (.sl true 0 [])])]), (.sl true 0 []), (.sl true 0 [])]), (.agg [(.int .i64 8), (.int .i64 1), (.str []), (.str []), RCc2, (.sl true 0 []), (.sl true 0 [])])]
def RCc12 : D := .sl true 7 [(.agg [(.int .i64 3), (.int .i64 0), (.str [97]), (.str [102]), (.sl true 5 [(.agg [(.int .i64 0), (.str []), (.int .i64 9), (.str []), (.sl true 0 [])])]), (.sl true 0 []), (.sl true 0 [])]), (.agg [(.int .i64 8), (.int .i64 1), (.str []), (.str []), RCc2, (.sl true 0 []), (.sl true 0 [])])]
def RCc13 : D := .sl true 7 [(.agg [(.int .i64 3), (.int .i64 0), (.str [97]), (.str [102]), (.sl true 5 [(.agg [(.int .i64 0), (.str []), (.int .i64 10), (.str []), (.sl true 0 [])])]), (.sl true 0 []), (.sl true 0 [])]), (.agg [(.int .i64 8), (.int .i64 1), (.str []), (.str []), RCc2, (.sl true 0 []), (.sl true 0 [])])]
def RCc14 : D := .sl true 7 [(.agg [(.int .i64 3), (.int .i64 0), (.str [97]), (.str [102]), (.sl true 5 [(.agg [(.int .i64 0), (.str []), (.int .i64 11), (.str []), (.sl true 0 [])])]), (.sl true 0 []), (.sl true 0 [])]), (.agg [(.int .i64 8), (.int .i64 1), (.str []), (.str []), RCc2, (.sl true 0 []), (.sl true 0 [])])]
def RCc15 : D := .sl true 7 [(.agg [(.int .i64 3), (.int .i64 0), (.str [97]), (.str [102]), (.sl true 5 [(.agg [(.int .i64 0), (.str []), (.int .i64 12), (.str []), (.sl true 0 [])])]), (.sl true 0 []), (.sl true 0 [])]), (.agg [(.int .i64 8), (.int .i64 1), (.str []), (.str []), RCc2, (.sl true 0 []), (.sl true 0 [])])]
def RCc16 : D := .sl true 7 [(.agg [(.int .i64 3), (.int .i64 0), (.str [97]), (.str [102]), (.sl true 5 [(.agg [(.int .i64 0), (.str []), (.int .i64 13), (.str []), (.sl true 0 [])])]), (.sl true 0 []), (.sl true 0 [])]), (.agg [(.int .i64 8), (.int .i64 1), (.str []), (.str []), RCc2, (.sl true 0 []), (.sl true 0 [])])]
def RCc17 : D := .sl true 7 [(.agg [(.int .i64 3), (.int .i64 0), (.str [97]), (.str [102]), (.sl true 5 [(.agg [(.int .i64 0), (.str []), (.int .i64 14), (.str []), (.sl true 0 [])])]), (.sl true 0 []), (.sl true 0 [])]), (.agg [(.int .i64 8), (.int .i64 1), (.str []), (.str []), RCc2, (.sl true 0 []), (.sl true 0 [])])]
def RCc18 : D := .sl true 7 [(.agg [(.int .i64 3), (.int .i64 0), (.str [97]), (.str [102]), (.sl true 5 [(.agg [(.int .i64 0), (.str []), (.int .i64 15), (.str []), (.sl true 0 [])])]), (.sl true 0 []), (.sl true 0 [])]), (.agg [(.int .i64 8), (.int .i64 1), (.str []), (.str []), RCc2, (.sl true 0 []), (.sl true 0 [])])]
def RCc19 : D := .sl true 7 [(.agg [(.int .i64 3), (.int .i64 0), (.str [97]), (.str [102]), (.sl true 5 [(.agg [(.int .i64 0), (.str []), (.int .i64 16), (.str []), (.sl true 0 [])])]), (.sl true 0 []), (.sl true 0 [])]), (.agg [(.int .i64 8), (.int .i64 1), (.str []), (.str []), RCc2, (.sl true 0 []), (.sl true 0 [])])]
def RCc20 : D := .sl true 7 [(.agg [(.int .i64 3), (.int .i64 0), (.str [97]), (.str [102]), (.sl true 5 [(.agg [(.int .i64 0), (.str []), (.int .i64 17), (.str []), (.sl true 0 [])])]), (.sl true 0 []), (.sl true 0 [])]), (.agg [(.int .i64 8), (.int .i64 1), (.str []), (.str []), RCc2, (.sl true 0 []), (.sl true 0 [])])]
def RCc21 : D := .sl true 7 [(.agg [(.int .i64 3), (.int .i64 0), (.str [97]), (.str [102]), (.sl true 5 [(.agg [(.int .i64 0), (.str []), (.int .i64 18), (.str []), (.sl true 0 [])])]), (.sl true 0 []), (.sl true 0 [])]), (.agg [(.int .i64 8), (.int .i64 1), (.str []), (.str []), RCc2, (.sl true 0 []), (.sl true 0 [])])]
def RCc22 : D := .sl true 7 [(.agg [(.int .i64 3), (.int .i64 0), (.str [97]), (.str [102]), (.sl true 5 [(.agg [(.int .i64 0), (.str []), (.int .i64 19), (.str []), (.sl true 0 [])])]), (.sl true 0 []), (.sl true 0 [])]), (.agg [(.int .i64 8), (.int .i64 1), (.str []), (.str []), RCc2, (.sl true 0 []), (.sl true 0 [])])]
def RCc23 : D := .sl true 7 [(.agg [(.int .i64 3), (.int .i64 0), (.str [97]), (.str [102]), (.sl true 5 [(.agg [(.int .i64 0), (.str []), (.int .i64 20), (.str []), (.sl true 0 [])])]), (.sl true 0 []), (.sl true 0 [])]), (.agg [(.int .i64 8), (.int .i64 1), (.str []), (.str []), RCc2, (.sl true 0 []), (.sl true 0 [])])]
def RCc24 : D := .sl true 7 [(.agg [(.int .i64 3), (.int .i64 0), (.str [97]), (.str [102]), (.sl true 5 [(.agg [(.int .i64 0), (.str []), (.int .i64 21), (.str []), (.sl true 0 [])])]), (.sl true 0 []), (.sl true 0 [])]), (.agg [(.int .i64 8), (.int .i64 1), (.str []), (.str []), RCc2, (.sl true 0 []), (.sl true 0 [])])]
def RCc25 : D := .sl true 7 [(.agg [(.int .i64 3), (.int .i64 0), (.str [97]), (.str [102]), (.sl true 5 [(.agg [(.int .i64 0), (.str []), (.int .i64 22), (.str []), (.sl true 0 [])])]), (.sl true 0 []), (.sl true 0 [])]), (.agg [(.int .i64 8), (.int .i64 1), (.str []), (.str []), RCc2, (.sl true 0 []), (.sl true 0 [])])]
def RCc26 : D := .sl true 7 [(.agg [(.int .i64 3), (.int .i64 0), (.str [97]), (.str [102]), (.sl true 5 [(.agg [(.int .i64 0), (.str []), (.int .i64 23), (.str []), (.sl true 0 [])])]), (.sl true 0 []), (.sl true 0 [])]), (.agg [(.int .i64 8), (.int .i64 1), (.str []), (.str []), RCc2, (.sl true 0 []), (.sl true 0 [])])]
def RCc27 : D := .sl true 7 [(.agg [(.int .i64 3), (.int .i64 0), (.str [97]), (.str [102]), (.sl true 5 [(.agg [(.int .i64 0), (.str []), (.int .i64 24), (.str []), (.sl true 0 [])])]), (.sl true 0 []), (.sl true 0 [])]), (.agg [(.int .i64 8), (.int .i64 1), (.str []), (.str []), RCc2, (.sl true 0 []), (.sl true 0 [])])]
def RCc28 : D := .sl true 7 [(.agg [(.int .i64 3), (.int .i64 0), (.str [97]), (.str [102]), (.sl true 5 [(.agg [(.int .i64 0), (.str []), (.int .i64 25), (.str []), (.sl true 0 [])])]), (.sl true 0 []), (.sl true 0 [])]), (.agg [(.int .i64 8), (.int .i64 1), (.str []), (.str []), RCc2, (.sl true 0 []), (.sl true 0 [])])]
def RCc29 : D := .sl true 7 [(.agg [(.int .i64 3), (.int .i64 0), (.str [97]), (.str [102]), (.sl true 5 [(.agg [(.int .i64 0), (.str []), (.int .i64 26), (.str []), (.sl true 0 [])])]), (.sl true 0 []), (.sl true 0 [])]), (.agg [(.int .i64 8), (.int .i64 1), (.str []), (.str []), RCc2, (.sl true 0 []), (.sl true 0 [])])]
def RCc30 : D := .sl true 7 [(.agg [(.int .i64 3), (.int .i64 0), (.str [97]), (.str [102]), (.sl true 5 [(.agg [(.int .i64 0), (.str []), (.int .i64 27), (.str []), (.sl true 0 [])])]), (.sl true 0 []), (.sl true 0 [])]), (.agg [(.int .i64 8), (.int .i64 1), (.str []), (.str []), RCc2, (.sl true 0 []), (.sl true 0 [])])]
def RCc31 : D := .sl true 7 [(.agg [(.int .i64 3), (.int .i64 0), (.str [97]), (.str [102]), (.sl true 5 [(.agg [(.int .i64 0), (.str []), (.int .i64 28), (.str []), (.sl true 0 [])])]), (.sl true 0 []), (.sl true 0 [])]), (.agg [(.int .i64 8), (.int .i64 1), (.str []), (.str []), RCc2, (.sl true 0 []), (.sl true 0 [])])]
def RCc32 : D := .sl true 7 [(.agg [(.int .i64 3), (.int .i64 0), (.str [97]), (.str [102]), (.sl true 5 [(.agg [(.int .i64 0), (.str []), (.int .i64 29), (.str []), (.sl true 0 [])])]), (.sl true 0 []), (.sl true 0 [])]), (.agg [(.int .i64 8), (.int .i64 1), (.str []), (.str []), RCc2, (.sl true 0 []), (.sl true 0 [])])]
def RCc33 : D := .sl true 7 [(.agg [(.int .i64 3), (.int .i64 0), (.str [97]), (.str [102]), (.sl true 5 [(.agg [(.int .i64 0), (.str []), (.int .i64 30), (.str []), (.sl true 0 [])])]), (.sl true 0 []), (.sl true 0 [])]), (.agg [(.int .i64 8), (.int .i64 1), (.str []), (.str []), RCc2, (.sl true 0 []), (.sl true 0 [])])]
def RCc34 : D := .sl true 7 [(.agg [(.int .i64 3), (.int .i64 0), (.str [97]), (.str [102]), (.sl true 5 [(.agg [(.int .i64 0), (.str []), (.int .i64 31), (.str []), (.sl true 0 [])])]), (.sl true 0 []), (.sl true 0 [])]), (.agg [(.int .i64 8), (.int .i64 1), (.str []), (.str []), RCc2, (.sl true 0 []), (.sl true 0 [])])]
def RCc35 : D := .sl true 7 [(.agg [(.int .i64 3), (.int .i64 0), (.str [97]), (.str [102]), (.sl true 5 [(.agg [(.int .i64 0), (.str []), (.int .i64 32), (.str []), (.sl true 0 [])])]), (.sl true 0 []), (.sl true 0 [])]), (.agg [(.int .i64 8), (.int .i64 1), (.str []), (.str []), RCc2, (.sl true 0 []), (.sl true 0 [])])]
def RCc36 : D := .sl true 7 [(.agg [(.int .i64 3), (.int .i64 0), (.str [97]), (.str [102]), (.sl true 5 [(.agg [(.int .i64 0), (.str []), (.int .i64 33), (.str []), (.sl true 0 [])])]), (.sl true 0 []), (.sl true 0 [])]), (.agg [(.int .i64 8), (.int .i64 1), (.str []), (.str []), RCc2, (.sl true 0 []), (.sl true 0 [])])]
def RCc37 : D := .sl true 7 [(.agg [(.int .i64 3), (.int .i64 0), (.str [97]), (.str [102]), (.sl true 5 [(.agg [(.int .i64 0), (.str []), (.int .i64 34), (.str []), (.sl true 0 [])])]), (.sl true 0 []), (.sl true 0 [])]), (.agg [(.int .i64 8), (.int .i64 1), (.str []), (.str []), RCc2, (.sl true 0 []), (.sl true 0 [])])]
def RCc38 : D := .sl true 7 [(.agg [(.int .i64 3), (.int .i64 0), (.str [97]), (.str [102]), (.sl true 5 [(.agg [(.int .i64 0), (.str []), (.int .i64 35), (.str []), (.sl true 0 [])])]), (.sl true 0 []), (.sl true 0 [])]), (.agg [(.int .i64 8), (.int .i64 1), (.str []), (.str []), RCc2, (.sl true 0 []), (.sl true 0 [])])]
def RCc39 : D := .sl true 7 [(.agg [(.int .i64 3), (.int .i64 0), (.str [97]), (.str [102]), (.sl true 5 [(.agg [(.int .i64 0), (.str []), (.int .i64 36), (.str []), (.sl true 0 [])])]), (.sl true 0 []), (.sl true 0 [])]), (.agg [(.int .i64 8), (.int .i64 1), (.str []), (.str []), RCc2, (.sl true 0 []), (.sl true 0 [])])]
def RCc40 : D := .sl true 7 [(.agg [(.int .i64 3), (.int .i64 0), (.str [97]), (.str [102]), (.sl true 5 [(.agg [(.int .i64 0), (.str []), (.int .i64 37), (.str []), (.sl true 0 [])])]), (.sl true 0 []), (.sl true 0 [])]), (.agg [(.int .i64 8), (.int .i64 1), (.str []), (.str []), RCc2, (.sl true 0 []), (.sl true 0 [])])]
def RCc41 : D := .sl true 7 [(.agg [(.int .i64 3), (.int .i64 0), (.str [97]), (.str [102]), (.sl true 5 [(.agg [(.int .i64 0), (.str []), (.int .i64 38), (.str []), (.sl true 0 [])])]), (.sl true 0 []), (.sl true 0 [])]), (.agg [(.int .i64 8), (.int .i64 1), (.str []), (.str []), RCc2, (.sl true 0 []), (.sl true 0 [])])]
def RCc42 : D := .sl true 7 [(.agg [(.int .i64 3), (.int .i64 0), (.str [97]), (.str [102]), (.sl true 5 [(.agg [(.int .i64 0), (.str []), (.int .i64 39), (.str []), (.sl true 0 [])])]), (.sl true 0 []), (.sl true 0 [])]), (.agg [(.int .i64 8), (.int .i64 1), (.str []), (.str []), RCc2, (.sl true 0 []), (.sl true 0 [])])]
def RCc43 : D := .sl true 7 [(.agg [(.int .i64 3), (.int .i64 0), (.str [97]), (.str [102]), (.sl true 5 [(.agg [(.int .i64 0), (.str []), (.int .i64 40), (.str []), (.sl true 0 [])])]), (.sl true 0 []), (.sl true 0 [])]), (.agg [(.int .i64 8), (.int .i64 1), (.str []), (.str []), RCc2, (.sl true 0 []), (.sl true 0 [])])]
def RCc44 : D := .sl true 7 [(.agg [(.int .i64 3), (.int .i64 0), (.str [97]), (.str [102]), (.sl true 5 [(.agg [(.int .i64 0), (.str []), (.int .i64 41), (.str []), (.sl true 0 [])])]), (.sl true 0 []), (.sl true 0 [])]), (.agg [(.int .i64 8), (.int .i64 1), (.str []), (.str []), RCc2, (.sl true 0 []), (.sl true 0 [])])]
def RCc45 : D := .sl true 7 [(.agg [(.int .i64 3), (.int .i64 0), (.str [97]), (.str [102]), (.sl true 5 [(.agg [(.int .i64 0), (.str []), (.int .i64 42), (.str []), (.sl true 0 [])])]), (.sl true 0 []), (.sl true 0 [])]), (.agg [(.int .i64 8), (.int .i64 1), (.str []), (.str []), RCc2, (.sl true 0 []), (.sl true 0 [])])]
def RCc46 : D := .sl true 7 [(.agg [(.int .i64 3), (.int .i64 0), (.str [97]), (.str [102]), (.sl true 5 [(.agg [(.int .i64 0), (.str []), (.int .i64 43), (.str []), (.sl true 0 [])])]), (.sl true 0 []), (.sl true 0 [])]), (.agg [(.int .i64 8), (.int .i64 1), (.str []), (.str []), RCc2, (.sl true 0 []), (.sl true 0 [])])]
def RCc47 : D := .sl true 7 [(.agg [(.int .i64 3), (.int .i64 0), (.str [97]), (.str [102]), (.sl true 5 [(.agg [(.int .i64 0), (.str []), (.int .i64 44), (.str []), (.sl true 0 [])])]), (.sl true 0 []), (.sl true 0 [])]), (.agg [(.int .i64 8), (.int .i64 1), (.str []), (.str []), RCc2, (.sl true 0 []), (.sl true 0 [])])]
def RCc48 : D := .sl true 7 [(.agg [(.int .i64 3), (.int .i64 0), (.str [97]), (.str [102]), (.sl true 5 [(.agg [(.int .i64 0), (.str []), (.int .i64 45), (.str []), (.sl true 0 [])])]), (.sl true 0 []), (.sl true 0 [])]), (.agg [(.int .i64 8), (.int .i64 1), (.str []), (.str []), RCc2, (.sl true 0 []), (.sl true 0 [])])]
def RCc49 : D := .sl true 7 [(.agg [(.int .i64 3), (.int .i64 0), (.str [97]), (.str [102]), (.sl true 5 [(.agg [(.int .i64 0), (.str []), (.int .i64 46), (.str []), (.sl true 0 [])])]), (.sl true 0 []), (.sl true 0 [])]), (.agg [(.int .i64 8), (.int .i64 1), (.str []), (.str []), RCc2, (.sl true 0 []), (.sl true 0 [])])]
def RCc50 : D := .sl true 7 [(.agg [(.int .i64 3), (.int .i64 0), (.str [97]), (.str [102]), (.sl true 5 [(.agg [(.int .i64 0), (.str []), (.int .i64 47), (.str []), (.sl true 0 [])])]), (.sl true 0 []), (.sl true 0 [])]), (.agg [(.int .i64 8), (.int .i64 1), (.str []), (.str []), RCc2, (.sl true 0 []), (.sl true 0 [])])]
def RCc51 : D := .sl true 7 [(.agg [(.int .i64 3), (.int .i64 0), (.str [97]), (.str [102]), (.sl true 5 [(.agg [(.int .i64 0), (.str []), (.int .i64 48), (.str []), (.sl true 0 [])])]), (.sl true 0 []), (.sl true 0 [])]), (.agg [(.int .i64 8), (.int .i64 1), (.str []), (.str []), RCc2, (.sl true 0 []), (.sl true 0 [])])]
def RCc52 : D := .sl true 7 [(.agg [(.int .i64 3), (.int .i64 0), (.str [97]), (.str [102]), (.sl true 5 [(.agg [(.int .i64 0), (.str []), (.int .i64 49), (.str []), (.sl true 0 [])])]), (.sl true 0 []), (.sl true 0 [])]), (.agg [(.int .i64 8), (.int .i64 1), (.str []), (.str []), RCc2, (.sl true 0 []), (.sl true 0 [])])]
def RCc53 : D := .sl true 7 [(.agg [(.int .i64 3), (.int .i64 0), (.str [97]), (.str [102]), (.sl true 5 [(.agg [(.int .i64 0), (.str []), (.int .i64 50), (.str []), (.sl true 0 [])])]), (.sl true 0 []), (.sl true 0 [])]), (.agg [(.int .i64 8), (.int .i64 1), (.str []), (.str []), RCc2, (.sl true 0 []), (.sl true 0 [])])]
def RCc54 : D := .sl true 7 [(.agg [(.int .i64 3), (.int .i64 0), (.str [97]), (.str [102]), (.sl true 5 [(.agg [(.int .i64 0), (.str []), (.int .i64 51), (.str []), (.sl true 0 [])])]), (.sl true 0 []), (.sl true 0 [])]), (.agg [(.int .i64 8), (.int .i64 1), (.str []), (.str []), RCc2, (.sl true 0 []), (.sl true 0 [])])]
def RCc55 : D := .sl true 7 [(.agg [(.int .i64 3), (.int .i64 0), (.str [97]), (.str [102]), (.sl true 5 [(.agg [(.int .i64 0), (.str []), (.int .i64 52), (.str []), (.sl true 0 [])])]), (.sl true 0 []), (.sl true 0 [])]), (.agg [(.int .i64 8), (.int .i64 1), (.str []), (.str []), RCc2, (.sl true 0 []), (.sl true 0 [])])]
def RCc56 : D := .sl true 7 [(.agg [(.int .i64 3), (.int .i64 0), (.str [97]), (.str [102]), (.sl true 5 [(.agg [(.int .i64 0), (.str []), (.int .i64 53), (.str []), (.sl true 0 [])])]), (.sl true 0 []), (.sl true 0 [])]), (.agg [(.int .i64 8), (.int .i64 1), (.str []), (.str []), RCc2, (.sl true 0 []), (.sl true 0 [])])]
def RCc57 : D := .sl true 7 [(.agg [(.int .i64 3), (.int .i64 0), (.str [97]), (.str [102]), (.sl true 5 [(.agg [(.int .i64 0), (.str []), (.int .i64 54), (.str []), (.sl true 0 [])])]), (.sl true 0 []), (.sl true 0 [])]), (.agg [(.int .i64 8), (.int .i64 1), (.str []), (.str []), RCc2, (.sl true 0 []), (.sl true 0 [])])]
def RCc58 : D := .sl true 7 [(.agg [(.int .i64 3), (.int .i64 0), (.str [97]), (.str [102]), (.sl true 5 [(.agg [(.int .i64 0), (.str []), (.int .i64 55), (.str []), (.sl true 0 [])])]), (.sl true 0 []), (.sl true 0 [])]), (.agg [(.int .i64 8), (.int .i64 1), (.str []), (.str []), RCc2, (.sl true 0 []), (.sl true 0 [])])]
def RCc59 : D := .sl true 7 [(.agg [(.int .i64 3), (.int .i64 0), (.str [97]), (.str [102]), (.sl true 5 [(.agg [(.int .i64 0), (.str []), (.int .i64 56), (.str []), (.sl true 0 [])])]), (.sl true 0 []), (.sl true 0 [])]), (.agg [(.int .i64 8), (.int .i64 1), (.str []), (.str []), RCc2, (.sl true 0 []), (.sl true 0 [])])]
def RCc60 : D := .sl true 7 [(.agg [(.int .i64 3), (.int .i64 0), (.str [97]), (.str [102]), (.sl true 5 [(.agg [(.int .i64 0), (.str []), (.int .i64 57), (.str []), (.sl true 0 [])])]), (.sl true 0 []), (.sl true 0 [])]), (.agg [(.int .i64 8), (.int .i64 1), (.str []), (.str []), RCc2, (.sl true 0 []), (.sl true 0 [])])]
def RCc61 : D := .sl true 7 [(.agg [(.int .i64 3), (.int .i64 0), (.str [97]), (.str [102]), (.sl true 5 [(.agg [(.int .i64 0), (.str []), (.int .i64 58), (.str []), (.sl true 0 [])])]), (.sl true 0 []), (.sl true 0 [])]), (.agg [(.int .i64 8), (.int .i64 1), (.str []), (.str []), RCc2, (.sl true 0 []), (.sl true 0 [])])]
def RCc62 : D := .sl true 7 [(.agg [(.int .i64 3), (.int .i64 0), (.str [97]), (.str [102]), (.sl true 5 [(.agg [(.int .i64 0), (.str []), (.int .i64 59), (.str []), (.sl true 0 [])])]), (.sl true 0 []), (.sl true 0 [])]), (.agg [(.int .i64 8), (.int .i64 1), (.str []), (.str []), RCc2, (.sl true 0 []), (.sl true 0 [])])]
def RCc63 : AV := .im (.agg [(.str [102]), (.sl true 1 [(.str [110])]), (.sl true 2 [(.agg [(.str [114]), (.int .i64 0)])]), RCc1])
def RCc64 : D := .sl true 2 [(.agg [(.str [97]), (.int .i64 0)])]
def RCc65 : D := .sl true 4 [(.agg [(.str [102]), (.sl true 1 [(.str [110])]), (.sl true 2 [(.agg [(.str [114]), (.int .i64 0)])]), RCc1]), (.agg [(.str [109, 97, 105, 110]), (.sl true 0 []), RCc64, RCc30])]
def RCc66 : AV := .im (.agg [RCc65])
def RCc67 : D := .sl true 4 [(.agg [(.str [102]), (.sl true 1 [(.str [110])]), (.sl true 2 [(.agg [(.str [114]), (.int .i64 0)])]), RCc1]), (.agg [(.str [109, 97, 105, 110]), (.sl true 0 []), RCc64, RCc35])]
def RCc68 : AV := .im (.agg [RCc67])
def RCc69 : AV := .im (.agg [(.int .i64 3), (.int .i64 0), (.str [114]), (.str [102]), (.sl true 5 [(.agg [(.int .i64 4), (.str [45]), (.int .i64 0), (.str []), (.sl true 5 [(.agg [(.int .i64 1), (.str []), (.int .i64 0), (.str [110]), (.sl true 0 [])]), (.agg [(.int .i64 0), (.str []), (.int .i64 1), (.str []), (.sl true 0 [])])])])]), (.sl true 0 []), (.sl true 0 [])])
def RCc70 : Blk := .m 4 [(.agg [(.ptr 1 0 0), (.ptr 5 0 0), (.im (.bool false)), (.im (.int .i64 0))])]
def RCc71 : AV := .im RCc65
def RCc72 : D := .sl true 1 [(.str [97])]
def RCc73 : Blk := .c 1 [RCc72]
def RCc74 : Blk := .m 3 [(.agg [(.im (.str [110])), (.im (.bool false)), (.ref 7 0 1)]), (.agg [(.im (.str [114])), (.im (.bool false)), (.ref 8 0 1)])]
def RCc75 : AV := .im RCc67
def RCc76 : AV := .im RCc72
def RCc77 : D := .sl true 4 [(.agg [(.str [102]), (.sl true 1 [(.str [110])]), (.sl true 2 [(.agg [(.str [114]), (.int .i64 0)])]), RCc1]), (.agg [(.str [109, 97, 105, 110]), (.sl true 0 []), RCc64, RCc29])]
def RCc78 : AV := .im (.agg [RCc77])
def RCc79 : D := .sl true 4 [(.agg [(.str [102]), (.sl true 1 [(.str [110])]), (.sl true 2 [(.agg [(.str [114]), (.int .i64 0)])]), RCc1]), (.agg [(.str [109, 97, 105, 110]), (.sl true 0 []), RCc64, RCc36])]
def RCc80 : AV := .im (.agg [RCc79])
def RCc81 : AV := .im RCc79
def RCc82 : AV := .im RCc77
def RCc83 : D := .sl true 4 [(.agg [(.str [102]), (.sl true 1 [(.str [110])]), (.sl true 2 [(.agg [(.str [114]), (.int .i64 0)])]), RCc1]), (.agg [(.str [109, 97, 105, 110]), (.sl true 0 []), RCc64, RCc28])]
def RCc84 : AV := .im (.agg [RCc83])
def RCc85 : D := .sl true 4 [(.agg [(.str [102]), (.sl true 1 [(.str [110])]), (.sl true 2 [(.agg [(.str [114]), (.int .i64 0)])]), RCc1]), (.agg [(.str [109, 97, 105, 110]), (.sl true 0 []), RCc64, RCc37])]
def RCc86 : AV := .im (.agg [RCc85])
def RCc87 : AV := .im RCc85
def RCc88 : AV := .im RCc83
def RCc89 : D := .sl true 4 [(.agg [(.str [102]), (.sl true 1 [(.str [110])]), (.sl true 2 [(.agg [(.str [114]), (.int .i64 0)])]), RCc1]), (.agg [(.str [109, 97, 105, 110]), (.sl true 0 []), RCc64, RCc27])]
def RCc90 : AV := .im (.agg [RCc89])
def RCc91 : D := .sl true 4 [(.agg [(.str [102]), (.sl true 1 [(.str [110])]), (.sl true 2 [(.agg [(.str [114]), (.int .i64 0)])]), RCc1]), (.agg [(.str [109, 97, 105, 110]), (.sl true 0 []), RCc64, RCc38])]
def RCc92 : AV := .im (.agg [RCc91])
def RCc93 : AV := .im RCc91
def RCc94 : AV := .im RCc89
def RCc95 : D := .sl true 4 [(.agg [(.str [102]), (.sl true 1 [(.str [110])]), (.sl true 2 [(.agg [(.str [114]), (.int .i64 0)])]), RCc1]), (.agg [(.str [109, 97, 105, 110]), (.sl true 0 []), RCc64, RCc26])]
def RCc96 : AV := .im (.agg [RCc95])
def RCc97 : D := .sl true 4 [(.agg [(.str [102]), (.sl true 1 [(.str [110])]), (.sl true 2 [(.agg [(.str [114]), (.int .i64 0)])]), RCc1]), (.agg [(.str [109, 97, 105, 110]), (.sl true 0 []), RCc64, RCc39])]
def RCc98 : AV := .im (.agg [RCc97])
def RCc99 : AV := .im RCc97
def RCc100 : AV := .im RCc95
def RCc101 : D := .sl true 4 [(.agg [(.str [102]), (.sl true 1 [(.str [110])]), (.sl true 2 [(.agg [(.str [114]), (.int .i64 0)])]), RCc1]), (.agg [(.str [109, 97, 105, 110]), (.sl true 0 []), RCc64, RCc25])]
def RCc102 : AV := .im (.agg [RCc101])
def RCc103 : D := .sl true 4 [(.agg [(.str [102]), (.sl true 1 [(.str [110])]), (.sl true 2 [(.agg [(.str [114]), (.int .i64 0)])]), RCc1]), (.agg [(.str [109, 97, 105, 110]), (.sl true 0 []), RCc64, RCc40])]
def RCc104 : AV := .im (.agg [RCc103])
def RCc105 : AV := .im RCc103
def RCc106 : AV := .im RCc101
def RCc107 : D := .sl true 4 [(.agg [(.str [102]), (.sl true 1 [(.str [110])]), (.sl true 2 [(.agg [(.str [114]), (.int .i64 0)])]), RCc1]), (.agg [(.str [109, 97, 105, 110]), (.sl true 0 []), RCc64, RCc24])]
def RCc108 : AV := .im (.agg [RCc107])
def RCc109 : D := .sl true 4 [(.agg [(.str [102]), (.sl true 1 [(.str [110])]), (.sl true 2 [(.agg [(.str [114]), (.int .i64 0)])]), RCc1]), (.agg [(.str [109, 97, 105, 110]), (.sl true 0 []), RCc64, RCc41])]
def RCc110 : AV := .im (.agg [RCc109])
def RCc111 : AV := .im RCc109
def RCc112 : AV := .im RCc107
def RCc113 : D := .sl true 4 [(.agg [(.str [102]), (.sl true 1 [(.str [110])]), (.sl true 2 [(.agg [(.str [114]), (.int .i64 0)])]), RCc1]), (.agg [(.str [109, 97, 105, 110]), (.sl true 0 []), RCc64, RCc23])]
def RCc114 : AV := .im (.agg [RCc113])
def RCc115 : D := .sl true 4 [(.agg [(.str [102]), (.sl true 1 [(.str [110])]), (.sl true 2 [(.agg [(.str [114]), (.int .i64 0)])]), RCc1]), (.agg [(.str [109, 97, 105, 110]), (.sl true 0 []), RCc64, RCc42])]
def RCc116 : AV := .im (.agg [RCc115])
def RCc117 : AV := .im RCc115
def RCc118 : AV := .im (.ifc 216 (.agg [(.int .i64 5)]))
def RCc119 : Blk := .m 9 [(.agg [RCc117, (.im (.sl true 0 [])), (.im (.int .i64 1000)), (.im (.int .i64 40)), (.fn (.func 75) [] [(.ptr 2 0 0), (.ptr 3 0 0), (.ptr 4 0 0)]), (.im (.int .i64 0)), (.im (.int .i64 79)), (.im (.int .i64 0)), (.im (.sl true 0 []))])]
def RCc120 : AV := .im RCc113
def RCc121 : D := .sl true 4 [(.agg [(.str [102]), (.sl true 1 [(.str [110])]), (.sl true 2 [(.agg [(.str [114]), (.int .i64 0)])]), RCc1]), (.agg [(.str [109, 97, 105, 110]), (.sl true 0 []), RCc64, RCc22])]
def RCc122 : AV := .im (.agg [RCc121])
def RCc123 : D := .sl true 4 [(.agg [(.str [102]), (.sl true 1 [(.str [110])]), (.sl true 2 [(.agg [(.str [114]), (.int .i64 0)])]), RCc1]), (.agg [(.str [109, 97, 105, 110]), (.sl true 0 []), RCc64, RCc43])]
def RCc124 : AV := .im (.agg [RCc123])
def RCc125 : AV := .im RCc123
def RCc126 : Blk := .m 9 [(.agg [RCc125, (.im (.sl true 0 [])), (.im (.int .i64 1000)), (.im (.int .i64 40)), (.fn (.func 75) [] [(.ptr 2 0 0), (.ptr 3 0 0), (.ptr 4 0 0)]), (.im (.int .i64 0)), (.im (.int .i64 79)), (.im (.int .i64 0)), (.im (.sl true 0 []))])]
def RCc127 : AV := .im RCc121
def RCc128 : D := .sl true 4 [(.agg [(.str [102]), (.sl true 1 [(.str [110])]), (.sl true 2 [(.agg [(.str [114]), (.int .i64 0)])]), RCc1]), (.agg [(.str [109, 97, 105, 110]), (.sl true 0 []), RCc64, RCc21])]
def RCc129 : AV := .im (.agg [RCc128])
def RCc130 : D := .sl true 4 [(.agg [(.str [102]), (.sl true 1 [(.str [110])]), (.sl true 2 [(.agg [(.str [114]), (.int .i64 0)])]), RCc1]), (.agg [(.str [109, 97, 105, 110]), (.sl true 0 []), RCc64, RCc44])]
def RCc131 : AV := .im (.agg [RCc130])
def RCc132 : AV := .im RCc130
def RCc133 : Blk := .m 9 [(.agg [RCc132, (.im (.sl true 0 [])), (.im (.int .i64 1000)), (.im (.int .i64 40)), (.fn (.func 75) [] [(.ptr 2 0 0), (.ptr 3 0 0), (.ptr 4 0 0)]), (.im (.int .i64 0)), (.im (.int .i64 79)), (.im (.int .i64 0)), (.im (.sl true 0 []))])]
def RCc134 : AV := .im RCc128
def RCc135 : D := .sl true 4 [(.agg [(.str [102]), (.sl true 1 [(.str [110])]), (.sl true 2 [(.agg [(.str [114]), (.int .i64 0)])]), RCc1]), (.agg [(.str [109, 97, 105, 110]), (.sl true 0 []), RCc64, RCc20])]
def RCc136 : AV := .im (.agg [RCc135])
def RCc137 : D := .sl true 4 [(.agg [(.str [102]), (.sl true 1 [(.str [110])]), (.sl true 2 [(.agg [(.str [114]), (.int .i64 0)])]), RCc1]), (.agg [(.str [109, 97, 105, 110]), (.sl true 0 []), RCc64, RCc45])]
def RCc138 : AV := .im (.agg [RCc137])
def RCc139 : AV := .im RCc137
def RCc140 : Blk := .m 9 [(.agg [RCc139, (.im (.sl true 0 [])), (.im (.int .i64 1000)), (.im (.int .i64 40)), (.fn (.func 75) [] [(.ptr 2 0 0), (.ptr 3 0 0), (.ptr 4 0 0)]), (.im (.int .i64 0)), (.im (.int .i64 79)), (.im (.int .i64 0)), (.im (.sl true 0 []))])]
def RCc141 : AV := .im RCc135
def RCc142 : D := .sl true 4 [(.agg [(.str [102]), (.sl true 1 [(.str [110])]), (.sl true 2 [(.agg [(.str [114]), (.int .i64 0)])]), RCc1]), (.agg [(.str [109, 97, 105, 110]), (.sl true 0 []), RCc64, RCc19])]
def RCc143 : AV := .im (.agg [RCc142])
def RCc144 : D := .sl true 4 [(.agg [(.str [102]), (.sl true 1 [(.str [110])]), (.sl true 2 [(.agg [(.str [114]), (.int .i64 0)])]), RCc1]), (.agg [(.str [109, 97, 105, 110]), (.sl true 0 []), RCc64, RCc46])]
def RCc145 : AV := .im (.agg [RCc144])
def RCc146 : AV := .im RCc144
def RCc147 : Blk := .m 9 [(.agg [RCc146, (.im (.sl true 0 [])), (.im (.int .i64 1000)), (.im (.int .i64 40)), (.fn (.func 75) [] [(.ptr 2 0 0), (.ptr 3 0 0), (.ptr 4 0 0)]), (.im (.int .i64 0)), (.im (.int .i64 79)), (.im (.int .i64 0)), (.im (.sl true 0 []))])]
def RCc148 : AV := .im RCc142
def RCc149 : D := .sl true 4 [(.agg [(.str [102]), (.sl true 1 [(.str [110])]), (.sl true 2 [(.agg [(.str [114]), (.int .i64 0)])]), RCc1]), (.agg [(.str [109, 97, 105, 110]), (.sl true 0 []), RCc64, RCc18])]
def RCc150 : AV := .im (.agg [RCc149])
def RCc151 : D := .sl true 4 [(.agg [(.str [102]), (.sl true 1 [(.str [110])]), (.sl true 2 [(.agg [(.str [114]), (.int .i64 0)])]), RCc1]), (.agg [(.str [109, 97, 105, 110]), (.sl true 0 []), RCc64, RCc47])]
def RCc152 : AV := .im (.agg [RCc151])
def RCc153 : AV := .im RCc151
def RCc154 : Blk := .m 9 [(.agg [RCc153, (.im (.sl true 0 [])), (.im (.int .i64 1000)), (.im (.int .i64 40)), (.fn (.func 75) [] [(.ptr 2 0 0), (.ptr 3 0 0), (.ptr 4 0 0)]), (.im (.int .i64 0)), (.im (.int .i64 79)), (.im (.int .i64 0)), (.im (.sl true 0 []))])]
def RCc155 : AV := .im RCc149
def RCc156 : D := .sl true 4 [(.agg [(.str [102]), (.sl true 1 [(.str [110])]), (.sl true 2 [(.agg [(.str [114]), (.int .i64 0)])]), RCc1]), (.agg [(.str [109, 97, 105, 110]), (.sl true 0 []), RCc64, RCc17])]
def RCc157 : AV := .im (.agg [RCc156])
def RCc158 : D := .sl true 4 [(.agg [(.str [102]), (.sl true 1 [(.str [110])]), (.sl true 2 [(.agg [(.str [114]), (.int .i64 0)])]), RCc1]), (.agg [(.str [109, 97, 105, 110]), (.sl true 0 []), RCc64, RCc48])]
def RCc159 : AV := .im (.agg [RCc158])
def RCc160 : AV := .im RCc158
def RCc161 : Blk := .m 9 [(.agg [RCc160, (.im (.sl true 0 [])), (.im (.int .i64 1000)), (.im (.int .i64 40)), (.fn (.func 75) [] [(.ptr 2 0 0), (.ptr 3 0 0), (.ptr 4 0 0)]), (.im (.int .i64 0)), (.im (.int .i64 79)), (.im (.int .i64 0)), (.im (.sl true 0 []))])]
def RCc162 : AV := .im RCc156
def RCc163 : D := .sl true 4 [(.agg [(.str [102]), (.sl true 1 [(.str [110])]), (.sl true 2 [(.agg [(.str [114]), (.int .i64 0)])]), RCc1]), (.agg [(.str [109, 97, 105, 110]), (.sl true 0 []), RCc64, RCc16])]
def RCc164 : AV := .im (.agg [RCc163])
def RCc165 : D := .sl true 4 [(.agg [(.str [102]), (.sl true 1 [(.str [110])]), (.sl true 2 [(.agg [(.str [114]), (.int .i64 0)])]), RCc1]), (.agg [(.str [109, 97, 105, 110]), (.sl true 0 []), RCc64, RCc49])]
def RCc166 : AV := .im (.agg [RCc165])
def RCc167 : AV := .im RCc165
def RCc168 : Blk := .m 9 [(.agg [RCc167, (.im (.sl true 0 [])), (.im (.int .i64 1000)), (.im (.int .i64 40)), (.fn (.func 75) [] [(.ptr 2 0 0), (.ptr 3 0 0), (.ptr 4 0 0)]), (.im (.int .i64 0)), (.im (.int .i64 79)), (.im (.int .i64 0)), (.im (.sl true 0 []))])]
def RCc169 : AV := .im RCc163
def RCc170 : D := .sl true 4 [(.agg [(.str [102]), (.sl true 1 [(.str [110])]), (.sl true 2 [(.agg [(.str [114]), (.int .i64 0)])]), RCc1]), (.agg [(.str [109, 97, 105, 110]), (.sl true 0 []), RCc64, RCc15])]
def RCc171 : AV := .im (.agg [RCc170])
def RCc172 : D := .sl true 4 [(.agg [(.str [102]), (.sl true 1 [(.str [110])]), (.sl true 2 [(.agg [(.str [114]), (.int .i64 0)])]), RCc1]), (.agg [(.str [109, 97, 105, 110]), (.sl true 0 []), RCc64, RCc50])]
def RCc173 : AV := .im (.agg [RCc172])
def RCc174 : AV := .im RCc172
def RCc175 : Blk := .m 9 [(.agg [RCc174, (.im (.sl true 0 [])), (.im (.int .i64 1000)), (.im (.int .i64 40)), (.fn (.func 75) [] [(.ptr 2 0 0), (.ptr 3 0 0), (.ptr 4 0 0)]), (.im (.int .i64 0)), (.im (.int .i64 79)), (.im (.int .i64 0)), (.im (.sl true 0 []))])]
def RCc176 : AV := .im RCc170
def RCc177 : D := .sl true 4 [(.agg [(.str [102]), (.sl true 1 [(.str [110])]), (.sl true 2 [(.agg [(.str [114]), (.int .i64 0)])]), RCc1]), (.agg [(.str [109, 97, 105, 110]), (.sl true 0 []), RCc64, RCc14])]
def RCc178 : AV := .im (.agg [RCc177])
def RCc179 : D := .sl true 4 [(.agg [(.str [102]), (.sl true 1 [(.str [110])]), (.sl true 2 [(.agg [(.str [114]), (.int .i64 0)])]), RCc1]), (.agg [(.str [109, 97, 105, 110]), (.sl true 0 []), RCc64, RCc51])]
def RCc180 : AV := .im (.agg [RCc179])
def RCc181 : AV := .im RCc179
def RCc182 : Blk := .m 9 [(.agg [RCc181, (.im (.sl true 0 [])), (.im (.int .i64 1000)), (.im (.int .i64 40)), (.fn (.func 75) [] [(.ptr 2 0 0), (.ptr 3 0 0), (.ptr 4 0 0)]), (.im (.int .i64 0)), (.im (.int .i64 79)), (.im (.int .i64 0)), (.im (.sl true 0 []))])]
def RCc183 : AV := .im RCc177
def RCc184 : D := .sl true 4 [(.agg [(.str [102]), (.sl true 1 [(.str [110])]), (.sl true 2 [(.agg [(.str [114]), (.int .i64 0)])]), RCc1]), (.agg [(.str [109, 97, 105, 110]), (.sl true 0 []), RCc64, RCc13])]
def RCc185 : AV := .im (.agg [RCc184])
def RCc186 : D := .sl true 4 [(.agg [(.str [102]), (.sl true 1 [(.str [110])]), (.sl true 2 [(.agg [(.str [114]), (.int .i64 0)])]), RCc1]), (.agg [(.str [109, 97, 105, 110]), (.sl true 0 []), RCc64, RCc52])]
def RCc187 : AV := .im (.agg [RCc186])
def RCc188 : AV := .im RCc186
def RCc189 : Blk := .m 9 [(.agg [RCc188, (.im (.sl true 0 [])), (.im (.int .i64 1000)), (.im (.int .i64 40)), (.fn (.func 75) [] [(.ptr 2 0 0), (.ptr 3 0 0), (.ptr 4 0 0)]), (.im (.int .i64 0)), (.im (.int .i64 79)), (.im (.int .i64 0)), (.im (.sl true 0 []))])]
def RCc190 : AV := .im RCc184
def RCc191 : D := .sl true 4 [(.agg [(.str [102]), (.sl true 1 [(.str [110])]), (.sl true 2 [(.agg [(.str [114]), (.int .i64 0)])]), RCc1]), (.agg [(.str [109, 97, 105, 110]), (.sl true 0 []), RCc64, RCc12])]
def RCc192 : AV := .im (.agg [RCc191])
def RCc193 : D := .sl true 4 [(.agg [(.str [102]), (.sl true 1 [(.str [110])]), (.sl true 2 [(.agg [(.str [114]), (.int .i64 0)])]), RCc1]), (.agg [(.str [109, 97, 105, 110]), (.sl true 0 []), RCc64, RCc53])]
def RCc194 : AV := .im (.agg [RCc193])
def RCc195 : AV := .im RCc193
def RCc196 : Blk := .m 9 [(.agg [RCc195, (.im (.sl true 0 [])), (.im (.int .i64 1000)), (.im (.int .i64 40)), (.fn (.func 75) [] [(.ptr 2 0 0), (.ptr 3 0 0), (.ptr 4 0 0)]), (.im (.int .i64 0)), (.im (.int .i64 79)), (.im (.int .i64 0)), (.im (.sl true 0 []))])]
def RCc197 : AV := .im RCc191
def RCc198 : D := .sl true 4 [(.agg [(.str [102]), (.sl true 1 [(.str [110])]), (.sl true 2 [(.agg [(.str [114]), (.int .i64 0)])]), RCc1]), (.agg [(.str [109, 97, 105, 110]), (.sl true 0 []), RCc64, RCc11])]
def RCc199 : AV := .im (.agg [RCc198])
def RCc200 : D := .sl true 4 [(.agg [(.str [102]), (.sl true 1 [(.str [110])]), (.sl true 2 [(.agg [(.str [114]), (.int .i64 0)])]), RCc1]), (.agg [(.str [109, 97, 105, 110]), (.sl true 0 []), RCc64, RCc54])]
def RCc201 : AV := .im (.agg [RCc200])
def RCc202 : AV := .im RCc200
def RCc203 : Blk := .m 9 [(.agg [RCc202, (.im (.sl true 0 [])), (.im (.int .i64 1000)), (.im (.int .i64 40)), (.fn (.func 75) [] [(.ptr 2 0 0), (.ptr 3 0 0), (.ptr 4 0 0)]), (.im (.int .i64 0)), (.im (.int .i64 79)), (.im (.int .i64 0)), (.im (.sl true 0 []))])]
def RCc204 : AV := .im RCc198
def RCc205 : D := .sl true 4 [(.agg [(.str [102]), (.sl true 1 [(.str [110])]), (.sl true 2 [(.agg [(.str [114]), (.int .i64 0)])]), RCc1]), (.agg [(.str [109, 97, 105, 110]), (.sl true 0 []), RCc64, RCc10])]
def RCc206 : AV := .im (.agg [RCc205])
def RCc207 : D := .sl true 4 [(.agg [(.str [102]), (.sl true 1 [(.str [110])]), (.sl true 2 [(.agg [(.str [114]), (.int .i64 0)])]), RCc1]), (.agg [(.str [109, 97, 105, 110]), (.sl true 0 []), RCc64, RCc55])]
def RCc208 : AV := .im (.agg [RCc207])
def RCc209 : AV := .im RCc207
def RCc210 : Blk := .m 9 [(.agg [RCc209, (.im (.sl true 0 [])), (.im (.int .i64 1000)), (.im (.int .i64 40)), (.fn (.func 75) [] [(.ptr 2 0 0), (.ptr 3 0 0), (.ptr 4 0 0)]), (.im (.int .i64 0)), (.im (.int .i64 79)), (.im (.int .i64 0)), (.im (.sl true 0 []))])]
def RCc211 : AV := .im RCc205
def RCc212 : D := .sl true 4 [(.agg [(.str [102]), (.sl true 1 [(.str [110])]), (.sl true 2 [(.agg [(.str [114]), (.int .i64 0)])]), RCc1]), (.agg [(.str [109, 97, 105, 110]), (.sl true 0 []), RCc64, RCc9])]
def RCc213 : AV := .im (.agg [RCc212])
def RCc214 : D := .sl true 4 [(.agg [(.str [102]), (.sl true 1 [(.str [110])]), (.sl true 2 [(.agg [(.str [114]), (.int .i64 0)])]), RCc1]), (.agg [(.str [109, 97, 105, 110]), (.sl true 0 []), RCc64, RCc56])]
def RCc215 : AV := .im (.agg [RCc214])
def RCc216 : AV := .im RCc214
def RCc217 : Blk := .m 9 [(.agg [RCc216, (.im (.sl true 0 [])), (.im (.int .i64 1000)), (.im (.int .i64 40)), (.fn (.func 75) [] [(.ptr 2 0 0), (.ptr 3 0 0), (.ptr 4 0 0)]), (.im (.int .i64 0)), (.im (.int .i64 79)), (.im (.int .i64 0)), (.im (.sl true 0 []))])]
def RCc218 : AV := .im RCc212
def RCc219 : D := .sl true 4 [(.agg [(.str [102]), (.sl true 1 [(.str [110])]), (.sl true 2 [(.agg [(.str [114]), (.int .i64 0)])]), RCc1]), (.agg [(.str [109, 97, 105, 110]), (.sl true 0 []), RCc64, RCc8])]
def RCc220 : AV := .im (.agg [RCc219])
def RCc221 : D := .sl true 4 [(.agg [(.str [102]), (.sl true 1 [(.str [110])]), (.sl true 2 [(.agg [(.str [114]), (.int .i64 0)])]), RCc1]), (.agg [(.str [109, 97, 105, 110]), (.sl true 0 []), RCc64, RCc57])]
def RCc222 : AV := .im (.agg [RCc221])
def RCc223 : AV := .im RCc221
def RCc224 : Blk := .m 9 [(.agg [RCc223, (.im (.sl true 0 [])), (.im (.int .i64 1000)), (.im (.int .i64 40)), (.fn (.func 75) [] [(.ptr 2 0 0), (.ptr 3 0 0), (.ptr 4 0 0)]), (.im (.int .i64 0)), (.im (.int .i64 79)), (.im (.int .i64 0)), (.im (.sl true 0 []))])]
def RCc225 : AV := .im RCc219
def RCc226 : D := .sl true 4 [(.agg [(.str [102]), (.sl true 1 [(.str [110])]), (.sl true 2 [(.agg [(.str [114]), (.int .i64 0)])]), RCc1]), (.agg [(.str [109, 97, 105, 110]), (.sl true 0 []), RCc64, RCc7])]
def RCc227 : AV := .im (.agg [RCc226])
def RCc228 : D := .sl true 4 [(.agg [(.str [102]), (.sl true 1 [(.str [110])]), (.sl true 2 [(.agg [(.str [114]), (.int .i64 0)])]), RCc1]), (.agg [(.str [109, 97, 105, 110]), (.sl true 0 []), RCc64, RCc58])]
def RCc229 : AV := .im (.agg [RCc228])
def RCc230 : AV := .im RCc228
def RCc231 : Blk := .m 9 [(.agg [RCc230, (.im (.sl true 0 [])), (.im (.int .i64 1000)), (.im (.int .i64 40)), (.fn (.func 75) [] [(.ptr 2 0 0), (.ptr 3 0 0), (.ptr 4 0 0)]), (.im (.int .i64 0)), (.im (.int .i64 79)), (.im (.int .i64 0)), (.im (.sl true 0 []))])]
def RCc232 : AV := .im RCc226
def RCc233 : D := .sl true 4 [(.agg [(.str [102]), (.sl true 1 [(.str [110])]), (.sl true 2 [(.agg [(.str [114]), (.int .i64 0)])]), RCc1]), (.agg [(.str [109, 97, 105, 110]), (.sl true 0 []), RCc64, RCc6])]
def RCc234 : AV := .im (.agg [RCc233])
def RCc235 : D := .sl true 4 [(.agg [(.str [102]), (.sl true 1 [(.str [110])]), (.sl true 2 [(.agg [(.str [114]), (.int .i64 0)])]), RCc1]), (.agg [(.str [109, 97, 105, 110]), (.sl true 0 []), RCc64, RCc59])]
def RCc236 : AV := .im (.agg [RCc235])
def RCc237 : AV := .im RCc235
def RCc238 : Blk := .m 9 [(.agg [RCc237, (.im (.sl true 0 [])), (.im (.int .i64 1000)), (.im (.int .i64 40)), (.fn (.func 75) [] [(.ptr 2 0 0), (.ptr 3 0 0), (.ptr 4 0 0)]), (.im (.int .i64 0)), (.im (.int .i64 79)), (.im (.int .i64 0)), (.im (.sl true 0 []))])]
def RCc239 : AV := .im RCc233
def RCc240 : D := .sl true 4 [(.agg [(.str [102]), (.sl true 1 [(.str [110])]), (.sl true 2 [(.agg [(.str [114]), (.int .i64 0)])]), RCc1]), (.agg [(.str [109, 97, 105, 110]), (.sl true 0 []), RCc64, RCc5])]
def RCc241 : AV := .im (.agg [RCc240])
def RCc242 : D := .sl true 4 [(.agg [(.str [102]), (.sl true 1 [(.str [110])]), (.sl true 2 [(.agg [(.str [114]), (.int .i64 0)])]), RCc1]), (.agg [(.str [109, 97, 105, 110]), (.sl true 0 []), RCc64, RCc60])]
def RCc243 : AV := .im (.agg [RCc242])
def RCc244 : AV := .im RCc242
def RCc245 : Blk := .m 9 [(.agg [RCc244, (.im (.sl true 0 [])), (.im (.int .i64 1000)), (.im (.int .i64 40)), (.fn (.func 75) [] [(.ptr 2 0 0), (.ptr 3 0 0), (.ptr 4 0 0)]), (.im (.int .i64 0)), (.im (.int .i64 79)), (.im (.int .i64 0)), (.im (.sl true 0 []))])]
def RCc246 : AV := .im RCc240
def RCc247 : AV := .im (.agg [(.sl true 4 [(.agg [(.str [102]), (.sl true 1 [(.str [110])]), (.sl true 2 [(.agg [(.str [114]), (.int .i64 0)])]), RCc1]), (.agg [(.str [109, 97, 105, 110]), (.sl true 0 []), RCc64, RCc4])])])
def RCc248 : D := .sl true 4 [(.agg [(.str [102]), (.sl true 1 [(.str [110])]), (.sl true 2 [(.agg [(.str [114]), (.int .i64 0)])]), RCc1]), (.agg [(.str [109, 97, 105, 110]), (.sl true 0 []), RCc64, RCc61])]
def RCc249 : AV := .im (.agg [RCc248])
def RCc250 : AV := .im RCc248
def RCc251 : Blk := .m 9 [(.agg [RCc250, (.im (.sl true 0 [])), (.im (.int .i64 1000)), (.im (.int .i64 40)), (.fn (.func 75) [] [(.ptr 2 0 0), (.ptr 3 0 0), (.ptr 4 0 0)]), (.im (.int .i64 0)), (.im (.int .i64 79)), (.im (.int .i64 0)), (.im (.sl true 0 []))])]
def RCc252 : AV := .im (.agg [(.sl true 4 [(.agg [(.str [102]), (.sl true 1 [(.str [110])]), (.sl true 2 [(.agg [(.str [114]), (.int .i64 0)])]), RCc1]), (.agg [(.str [109, 97, 105, 110]), (.sl true 0 []), RCc64, RCc3])])])
def RCc253 : D := .sl true 4 [(.agg [(.str [102]), (.sl true 1 [(.str [110])]), (.sl true 2 [(.agg [(.str [114]), (.int .i64 0)])]), RCc1]), (.agg [(.str [109, 97, 105, 110]), (.sl true 0 []), RCc64, RCc62])]
def RCc254 : AV := .im (.agg [RCc253])
def RCc255 : AV := .im RCc253
def RCc256 : Blk := .m 9 [(.agg [RCc255, (.im (.sl true 0 [])), (.im (.int .i64 1000)), (.im (.int .i64 40)), (.fn (.func 75) [] [(.ptr 2 0 0), (.ptr 3 0 0), (.ptr 4 0 0)]), (.im (.int .i64 0)), (.im (.int .i64 79)), (.im (.int .i64 0)), (.im (.sl true 0 []))])]
def RCc257 : D := .sl true 4 [(.agg [(.str [102]), (.sl true 1 [(.str [110])]), (.sl true 2 [(.agg [(.str [114]), (.int .i64 0)])]), RCc1]), (.agg [(.str [109, 97, 105, 110]), (.sl true 0 []), RCc64, RCc31])]
def RCc258 : AV := .im (.agg [RCc257])
def RCc259 : D := .sl true 4 [(.agg [(.str [102]), (.sl true 1 [(.str [110])]), (.sl true 2 [(.agg [(.str [114]), (.int .i64 0)])]), RCc1]), (.agg [(.str [109, 97, 105, 110]), (.sl true 0 []), RCc64, RCc34])]
def RCc260 : AV := .im (.agg [RCc259])
def RCc261 : AV := .im RCc257
def RCc262 : AV := .im RCc259
def RCc263 : D := .sl true 4 [(.agg [(.str [102]), (.sl true 1 [(.str [110])]), (.sl true 2 [(.agg [(.str [114]), (.int .i64 0)])]), RCc1]), (.agg [(.str [109, 97, 105, 110]), (.sl true 0 []), RCc64, RCc32])]
def RCc264 : AV := .im (.agg [RCc263])
def RCc265 : D := .sl true 4 [(.agg [(.str [102]), (.sl true 1 [(.str [110])]), (.sl true 2 [(.agg [(.str [114]), (.int .i64 0)])]), RCc1]), (.agg [(.str [109, 97, 105, 110]), (.sl true 0 []), RCc64, RCc33])]
def RCc266 : AV := .im (.agg [RCc265])
def RCc267 : AV := .im RCc263
def RCc268 : AV := .im RCc265
end Go.Proofs.YtkinbnepkpoofaaGreatDoor
/- Runs that all have in common. -/
set_option maxRecDepth 1000000
set_option linter.unusedVariables false
open Go Go.AM
namespace Go.Proofs.YtkinbnepkpoofaaGreatDoor
noncomputable def gB (l : List (Nat × Sz)) : BookR Tryz.prog T := bookR Tryz.prog T (fun f => Nat.beq f 132) l
theorem gT {l : List (Nat × Sz)} {f : Nat} {t : Tabl} (h : ∀ p ∈ l, OkZ Tryz.prog p.1 p.2) (ht : ∀ e ∈ t, runK (gB l) 1000 70 f e.1 e.2.1 = some e.2.2) : OkZ Tryz.prog f (tabSz t) := tab_ok (runK_ok hT hm (bookR_ok hn h) 70 f) ht
noncomputable def RCL0 : List (Nat × Sz) := known
theorem RCL0_ok : ∀ p ∈ RCL0, OkZ Tryz.prog p.1 p.2 := known_ok
def RCe0 : Ent := ([(.im (.agg [(.int .i64 1), (.str []), (.int .i64 0), (.str [110]), (.sl true 0 [])]))], [], (false, (.im (.bool true)), []))
theorem RCr0 : rE (gB RCL0) 213 RCe0 = some RCe0.2.2 := by kernel_rfl
def RCe1 : Ent := ([(.im (.agg [(.int .i64 0), (.str []), (.int .i64 1), (.str []), (.sl true 0 [])]))], [], (false, (.im (.bool true)), []))
theorem RCr1 : rE (gB RCL0) 213 RCe1 = some RCe1.2.2 := by kernel_rfl
def RCe2 : Ent := ([(.im (.agg [(.int .i64 4), (.str [45]), (.int .i64 0), (.str []), (.sl true 5 [(.agg [(.int .i64 1), (.str []), (.int .i64 0), (.str [110]), (.sl true 0 [])]), (.agg [(.int .i64 0), (.str []), (.int .i64 1), (.str []), (.sl true 0 [])])])]))], [], (false, (.im (.bool true)), []))
theorem RCr2 : rE (gB RCL0) 213 RCe2 = some RCe2.2.2 := by kernel_rfl
def RCe3 : Ent := ([(.im (.agg [(.int .i64 1), (.str []), (.int .i64 0), (.str [114]), (.sl true 0 [])]))], [], (false, (.im (.bool true)), []))
theorem RCr3 : rE (gB RCL0) 213 RCe3 = some RCe3.2.2 := by kernel_rfl
def RCe4 : Ent := ([(.im (.agg [(.int .i64 4), (.str [43]), (.int .i64 0), (.str []), (.sl true 5 [(.agg [(.int .i64 1), (.str []), (.int .i64 0), (.str [114]), (.sl true 0 [])]), (.agg [(.int .i64 1), (.str []), (.int .i64 0), (.str [110]), (.sl true 0 [])])])]))], [], (false, (.im (.bool true)), []))
theorem RCr4 : rE (gB RCL0) 213 RCe4 = some RCe4.2.2 := by kernel_rfl
def RCe5 : Ent := ([(.im (.agg [(.int .i64 0), (.str []), (.int .i64 0), (.str []), (.sl true 0 [])]))], [], (false, (.im (.bool true)), []))
theorem RCr5 : rE (gB RCL0) 213 RCe5 = some RCe5.2.2 := by kernel_rfl
def RCe6 : Ent := ([(.im (.agg [(.int .i64 0), (.str []), (.int .i64 2), (.str []), (.sl true 0 [])]))], [], (false, (.im (.bool true)), []))
theorem RCr6 : rE (gB RCL0) 213 RCe6 = some RCe6.2.2 := by kernel_rfl
def RCe7 : Ent := ([(.im (.agg [(.int .i64 0), (.str []), (.int .i64 3), (.str []), (.sl true 0 [])]))], [], (false, (.im (.bool true)), []))
theorem RCr7 : rE (gB RCL0) 213 RCe7 = some RCe7.2.2 := by kernel_rfl
def RCe8 : Ent := ([(.im (.agg [(.int .i64 0), (.str []), (.int .i64 4), (.str []), (.sl true 0 [])]))], [], (false, (.im (.bool true)), []))
theorem RCr8 : rE (gB RCL0) 213 RCe8 = some RCe8.2.2 := by kernel_rfl
def RCe9 : Ent := ([(.im (.agg [(.int .i64 0), (.str []), (.int .i64 5), (.str []), (.sl true 0 [])]))], [], (false, (.im (.bool true)), []))
theorem RCr9 : rE (gB RCL0) 213 RCe9 = some RCe9.2.2 := by kernel_rfl
def RCe10 : Ent := ([(.im (.agg [(.int .i64 0), (.str []), (.int .i64 6), (.str []), (.sl true 0 [])]))], [], (false, (.im (.bool true)), []))
theorem RCr10 : rE (gB RCL0) 213 RCe10 = some RCe10.2.2 := by kernel_rfl
def RCe11 : Ent := ([(.im (.agg [(.int .i64 0), (.str []), (.int .i64 7), (.str []), (.sl true 0 [])]))], [], (false, (.im (.bool true)), []))
theorem RCr11 : rE (gB RCL0) 213 RCe11 = some RCe11.2.2 := by kernel_rfl
def RCe12 : Ent := ([(.im (.agg [(.int .i64 0), (.str []), (.int .i64 8), (.str []), (.sl true 0 [])]))], [], (false, (.im (.bool true)), []))
theorem RCr12 : rE (gB RCL0) 213 RCe12 = some RCe12.2.2 := by kernel_rfl
def RCe13 : Ent := ([(.im (.agg [(.int .i64 0), (.str []), (.int .i64 9), (.str []), (.sl true 0 [])]))], [], (false, (.im (.bool true)), []))
theorem RCr13 : rE (gB RCL0) 213 RCe13 = some RCe13.2.2 := by kernel_rfl
def RCe14 : Ent := ([(.im (.agg [(.int .i64 0), (.str []), (.int .i64 10), (.str []), (.sl true 0 [])]))], [], (false, (.im (.bool true)), []))
theorem RCr14 : rE (gB RCL0) 213 RCe14 = some RCe14.2.2 := by kernel_rfl
def RCe15 : Ent := ([(.im (.agg [(.int .i64 0), (.str []), (.int .i64 11), (.str []), (.sl true 0 [])]))], [], (false, (.im (.bool true)), []))
theorem RCr15 : rE (gB RCL0) 213 RCe15 = some RCe15.2.2 := by kernel_rfl
def RCe16 : Ent := ([(.im (.agg [(.int .i64 0), (.str []), (.int .i64 12), (.str []), (.sl true 0 [])]))], [], (false, (.im (.bool true)), []))
theorem RCr16 : rE (gB RCL0) 213 RCe16 = some RCe16.2.2 := by kernel_rfl
def RCe17 : Ent := ([(.im (.agg [(.int .i64 0), (.str []), (.int .i64 13), (.str []), (.sl true 0 [])]))], [], (false, (.im (.bool true)), []))
theorem RCr17 : rE (gB RCL0) 213 RCe17 = some RCe17.2.2 := by kernel_rfl
def RCe18 : Ent := ([(.im (.agg [(.int .i64 0), (.str []), (.int .i64 14), (.str []), (.sl true 0 [])]))], [], (false, (.im (.bool true)), []))
theorem RCr18 : rE (gB RCL0) 213 RCe18 = some RCe18.2.2 := by kernel_rfl
def RCe19 : Ent := ([(.im (.agg [(.int .i64 0), (.str []), (.int .i64 15), (.str []), (.sl true 0 [])]))], [], (false, (.im (.bool true)), []))
theorem RCr19 : rE (gB RCL0) 213 RCe19 = some RCe19.2.2 := by kernel_rfl
def RCe20 : Ent := ([(.im (.agg [(.int .i64 0), (.str []), (.int .i64 16), (.str []), (.sl true 0 [])]))], [], (false, (.im (.bool true)), []))
theorem RCr20 : rE (gB RCL0) 213 RCe20 = some RCe20.2.2 := by kernel_rfl
def RCe21 : Ent := ([(.im (.agg [(.int .i64 0), (.str []), (.int .i64 17), (.str []), (.sl true 0 [])]))], [], (false, (.im (.bool true)), []))
theorem RCr21 : rE (gB RCL0) 213 RCe21 = some RCe21.2.2 := by kernel_rfl
def RCe22 : Ent := ([(.im (.agg [(.int .i64 0), (.str []), (.int .i64 18), (.str []), (.sl true 0 [])]))], [], (false, (.im (.bool true)), []))
theorem RCr22 : rE (gB RCL0) 213 RCe22 = some RCe22.2.2 := by kernel_rfl
def RCe23 : Ent := ([(.im (.agg [(.int .i64 0), (.str []), (.int .i64 19), (.str []), (.sl true 0 [])]))], [], (false, (.im (.bool true)), []))
theorem RCr23 : rE (gB RCL0) 213 RCe23 = some RCe23.2.2 := by kernel_rfl
def RCe24 : Ent := ([(.im (.agg [(.int .i64 0), (.str []), (.int .i64 20), (.str []), (.sl true 0 [])]))], [], (false, (.im (.bool true)), []))
theorem RCr24 : rE (gB RCL0) 213 RCe24 = some RCe24.2.2 := by kernel_rfl
def RCe25 : Ent := ([(.im (.agg [(.int .i64 0), (.str []), (.int .i64 21), (.str []), (.sl true 0 [])]))], [], (false, (.im (.bool true)), []))
theorem RCr25 : rE (gB RCL0) 213 RCe25 = some RCe25.2.2 := by kernel_rfl
def RCe26 : Ent := ([(.im (.agg [(.int .i64 0), (.str []), (.int .i64 22), (.str []), (.sl true 0 [])]))], [], (false, (.im (.bool true)), []))
theorem RCr26 : rE (gB RCL0) 213 RCe26 = some RCe26.2.2 := by kernel_rfl
def RCe27 : Ent := ([(.im (.agg [(.int .i64 0), (.str []), (.int .i64 23), (.str []), (.sl true 0 [])]))], [], (false, (.im (.bool true)), []))
theorem RCr27 : rE (gB RCL0) 213 RCe27 = some RCe27.2.2 := by kernel_rfl
def RCe28 : Ent := ([(.im (.agg [(.int .i64 0), (.str []), (.int .i64 24), (.str []), (.sl true 0 [])]))], [], (false, (.im (.bool true)), []))
theorem RCr28 : rE (gB RCL0) 213 RCe28 = some RCe28.2.2 := by kernel_rfl
def RCe29 : Ent := ([(.im (.agg [(.int .i64 0), (.str []), (.int .i64 25), (.str []), (.sl true 0 [])]))], [], (false, (.im (.bool true)), []))
theorem RCr29 : rE (gB RCL0) 213 RCe29 = some RCe29.2.2 := by kernel_rfl
def RCe30 : Ent := ([(.im (.agg [(.int .i64 0), (.str []), (.int .i64 26), (.str []), (.sl true 0 [])]))], [], (false, (.im (.bool true)), []))
theorem RCr30 : rE (gB RCL0) 213 RCe30 = some RCe30.2.2 := by kernel_rfl
def RCe31 : Ent := ([(.im (.agg [(.int .i64 0), (.str []), (.int .i64 27), (.str []), (.sl true 0 [])]))], [], (false, (.im (.bool true)), []))
theorem RCr31 : rE (gB RCL0) 213 RCe31 = some RCe31.2.2 := by kernel_rfl
def RCe32 : Ent := ([(.im (.agg [(.int .i64 0), (.str []), (.int .i64 28), (.str []), (.sl true 0 [])]))], [], (false, (.im (.bool true)), []))
theorem RCr32 : rE (gB RCL0) 213 RCe32 = some RCe32.2.2 := by kernel_rfl
def RCe33 : Ent := ([(.im (.agg [(.int .i64 0), (.str []), (.int .i64 29), (.str []), (.sl true 0 [])]))], [], (false, (.im (.bool true)), []))
theorem RCr33 : rE (gB RCL0) 213 RCe33 = some RCe33.2.2 := by kernel_rfl
def RCe34 : Ent := ([(.im (.agg [(.int .i64 0), (.str []), (.int .i64 30), (.str []), (.sl true 0 [])]))], [], (false, (.im (.bool true)), []))
theorem RCr34 : rE (gB RCL0) 213 RCe34 = some RCe34.2.2 := by kernel_rfl
def RCe35 : Ent := ([(.im (.agg [(.int .i64 0), (.str []), (.int .i64 31), (.str []), (.sl true 0 [])]))], [], (false, (.im (.bool true)), []))
theorem RCr35 : rE (gB RCL0) 213 RCe35 = some RCe35.2.2 := by kernel_rfl
def RCe36 : Ent := ([(.im (.agg [(.int .i64 0), (.str []), (.int .i64 32), (.str []), (.sl true 0 [])]))], [], (false, (.im (.bool true)), []))
theorem RCr36 : rE (gB RCL0) 213 RCe36 = some RCe36.2.2 := by kernel_rfl
def RCe37 : Ent := ([(.im (.agg [(.int .i64 0), (.str []), (.int .i64 33), (.str []), (.sl true 0 [])]))], [], (false, (.im (.bool true)), []))
theorem RCr37 : rE (gB RCL0) 213 RCe37 = some RCe37.2.2 := by kernel_rfl
def RCe38 : Ent := ([(.im (.agg [(.int .i64 0), (.str []), (.int .i64 34), (.str []), (.sl true 0 [])]))], [], (false, (.im (.bool true)), []))
theorem RCr38 : rE (gB RCL0) 213 RCe38 = some RCe38.2.2 := by kernel_rfl
def RCe39 : Ent := ([(.im (.agg [(.int .i64 0), (.str []), (.int .i64 35), (.str []), (.sl true 0 [])]))], [], (false, (.im (.bool true)), []))
theorem RCr39 : rE (gB RCL0) 213 RCe39 = some RCe39.2.2 := by kernel_rfl
def RCe40 : Ent := ([(.im (.agg [(.int .i64 0), (.str []), (.int .i64 36), (.str []), (.sl true 0 [])]))], [], (false, (.im (.bool true)), []))
theorem RCr40 : rE (gB RCL0) 213 RCe40 = some RCe40.2.2 := by kernel_rfl
def RCe41 : Ent := ([(.im (.agg [(.int .i64 0), (.str []), (.int .i64 37), (.str []), (.sl true 0 [])]))], [], (false, (.im (.bool true)), []))
theorem RCr41 : rE (gB RCL0) 213 RCe41 = some RCe41.2.2 := by kernel_rfl
def RCe42 : Ent := ([(.im (.agg [(.int .i64 0), (.str []), (.int .i64 38), (.str []), (.sl true 0 [])]))], [], (false, (.im (.bool true)), []))
theorem RCr42 : rE (gB RCL0) 213 RCe42 = some RCe42.2.2 := by kernel_rfl
def RCe43 : Ent := ([(.im (.agg [(.int .i64 0), (.str []), (.int .i64 39), (.str []), (.sl true 0 [])]))], [], (false, (.im (.bool true)), []))
theorem RCr43 : rE (gB RCL0) 213 RCe43 = some RCe43.2.2 := by kernel_rfl
def RCe44 : Ent := ([(.im (.agg [(.int .i64 0), (.str []), (.int .i64 40), (.str []), (.sl true 0 [])]))], [], (false, (.im (.bool true)), []))
theorem RCr44 : rE (gB RCL0) 213 RCe44 = some RCe44.2.2 := by kernel_rfl
def RCe45 : Ent := ([(.im (.agg [(.int .i64 0), (.str []), (.int .i64 41), (.str []), (.sl true 0 [])]))], [], (false, (.im (.bool true)), []))
theorem RCr45 : rE (gB RCL0) 213 RCe45 = some RCe45.2.2 := by kernel_rfl
def RCe46 : Ent := ([(.im (.agg [(.int .i64 0), (.str []), (.int .i64 42), (.str []), (.sl true 0 [])]))], [], (false, (.im (.bool true)), []))
theorem RCr46 : rE (gB RCL0) 213 RCe46 = some RCe46.2.2 := by kernel_rfl
def RCe47 : Ent := ([(.im (.agg [(.int .i64 0), (.str []), (.int .i64 43), (.str []), (.sl true 0 [])]))], [], (false, (.im (.bool true)), []))
theorem RCr47 : rE (gB RCL0) 213 RCe47 = some RCe47.2.2 := by kernel_rfl
def RCe48 : Ent := ([(.im (.agg [(.int .i64 0), (.str []), (.int .i64 44), (.str []), (.sl true 0 [])]))], [], (false, (.im (.bool true)), []))
theorem RCr48 : rE (gB RCL0) 213 RCe48 = some RCe48.2.2 := by kernel_rfl
def RCe49 : Ent := ([(.im (.agg [(.int .i64 0), (.str []), (.int .i64 45), (.str []), (.sl true 0 [])]))], [], (false, (.im (.bool true)), []))
theorem RCr49 : rE (gB RCL0) 213 RCe49 = some RCe49.2.2 := by kernel_rfl
def RCe50 : Ent := ([(.im (.agg [(.int .i64 0), (.str []), (.int .i64 46), (.str []), (.sl true 0 [])]))], [], (false, (.im (.bool true)), []))
theorem RCr50 : rE (gB RCL0) 213 RCe50 = some RCe50.2.2 := by kernel_rfl
def RCe51 : Ent := ([(.im (.agg [(.int .i64 0), (.str []), (.int .i64 47), (.str []), (.sl true 0 [])]))], [], (false, (.im (.bool true)), []))
theorem RCr51 : rE (gB RCL0) 213 RCe51 = some RCe51.2.2 := by kernel_rfl
def RCe52 : Ent := ([(.im (.agg [(.int .i64 0), (.str []), (.int .i64 48), (.str []), (.sl true 0 [])]))], [], (false, (.im (.bool true)), []))
theorem RCr52 : rE (gB RCL0) 213 RCe52 = some RCe52.2.2 := by kernel_rfl
def RCe53 : Ent := ([(.im (.agg [(.int .i64 0), (.str []), (.int .i64 49), (.str []), (.sl true 0 [])]))], [], (false, (.im (.bool true)), []))
theorem RCr53 : rE (gB RCL0) 213 RCe53 = some RCe53.2.2 := by kernel_rfl
def RCe54 : Ent := ([(.im (.agg [(.int .i64 0), (.str []), (.int .i64 50), (.str []), (.sl true 0 [])]))], [], (false, (.im (.bool true)), []))
theorem RCr54 : rE (gB RCL0) 213 RCe54 = some RCe54.2.2 := by kernel_rfl
def RCe55 : Ent := ([(.im (.agg [(.int .i64 0), (.str []), (.int .i64 51), (.str []), (.sl true 0 [])]))], [], (false, (.im (.bool true)), []))
theorem RCr55 : rE (gB RCL0) 213 RCe55 = some RCe55.2.2 := by kernel_rfl
def RCe56 : Ent := ([(.im (.agg [(.int .i64 0), (.str []), (.int .i64 52), (.str []), (.sl true 0 [])]))], [], (false, (.im (.bool true)), []))
theorem RCr56 : rE (gB RCL0) 213 RCe56 = some RCe56.2.2 := by kernel_rfl
def RCe57 : Ent := ([(.im (.agg [(.int .i64 0), (.str []), (.int .i64 53), (.str []), (.sl true 0 [])]))], [], (false, (.im (.bool true)), []))
theorem RCr57 : rE (gB RCL0) 213 RCe57 = some RCe57.2.2 := by kernel_rfl
def RCe58 : Ent := ([(.im (.agg [(.int .i64 0), (.str []), (.int .i64 54), (.str []), (.sl true 0 [])]))], [], (false, (.im (.bool true)), []))
theorem RCr58 : rE (gB RCL0) 213 RCe58 = some RCe58.2.2 := by kernel_rfl
def RCe59 : Ent := ([(.im (.agg [(.int .i64 0), (.str []), (.int .i64 55), (.str []), (.sl true 0 [])]))], [], (false, (.im (.bool true)), []))
theorem RCr59 : rE (gB RCL0) 213 RCe59 = some RCe59.2.2 := by kernel_rfl
def RCe60 : Ent := ([(.im (.agg [(.int .i64 0), (.str []), (.int .i64 56), (.str []), (.sl true 0 [])]))], [], (false, (.im (.bool true)), []))
theorem RCr60 : rE (gB RCL0) 213 RCe60 = some RCe60.2.2 := by kernel_rfl
def RCe61 : Ent := ([(.im (.agg [(.int .i64 0), (.str []), (.int .i64 57), (.str []), (.sl true 0 [])]))], [], (false, (.im (.bool true)), []))
theorem RCr61 : rE (gB RCL0) 213 RCe61 = some RCe61.2.2 := by kernel_rfl
def RCe62 : Ent := ([(.im (.agg [(.int .i64 0), (.str []), (.int .i64 58), (.str []), (.sl true 0 [])]))], [], (false, (.im (.bool true)), []))
theorem RCr62 : rE (gB RCL0) 213 RCe62 = some RCe62.2.2 := by kernel_rfl
def RCe63 : Ent := ([(.im (.agg [(.int .i64 0), (.str []), (.int .i64 59), (.str []), (.sl true 0 [])]))], [], (false, (.im (.bool true)), []))
theorem RCr63 : rE (gB RCL0) 213 RCe63 = some RCe63.2.2 := by kernel_rfl
def RCt0 : Tabl := [RCe0, RCe1, RCe2, RCe3, RCe4, RCe5, RCe6, RCe7, RCe8, RCe9, RCe10, RCe11, RCe12, RCe13, RCe14, RCe15, RCe16, RCe17, RCe18, RCe19, RCe20, RCe21, RCe22, RCe23, RCe24, RCe25, RCe26, RCe27, RCe28, RCe29, RCe30, RCe31, RCe32, RCe33, RCe34, RCe35, RCe36, RCe37, RCe38, RCe39, RCe40, RCe41, RCe42, RCe43, RCe44, RCe45, RCe46, RCe47, RCe48, RCe49, RCe50, RCe51, RCe52, RCe53, RCe54, RCe55, RCe56, RCe57, RCe58, RCe59, RCe60, RCe61, RCe62, RCe63]
theorem RCt0_ok : OkZ Tryz.prog 213 (tabSz RCt0) := gT RCL0_ok (fA RCr0 <| fA RCr1 <| fA RCr2 <| fA RCr3 <| fA RCr4 <| fA RCr5 <| fA RCr6 <| fA RCr7 <| fA RCr8 <| fA RCr9 <| fA RCr10 <| fA RCr11 <| fA RCr12 <| fA RCr13 <| fA RCr14 <| fA RCr15 <| fA RCr16 <| fA RCr17 <| fA RCr18 <| fA RCr19 <| fA RCr20 <| fA RCr21 <| fA RCr22 <| fA RCr23 <| fA RCr24 <| fA RCr25 <| fA RCr26 <| fA RCr27 <| fA RCr28 <| fA RCr29 <| fA RCr30 <| fA RCr31 <| fA RCr32 <| fA RCr33 <| fA RCr34 <| fA RCr35 <| fA RCr36 <| fA RCr37 <| fA RCr38 <| fA RCr39 <| fA RCr40 <| fA RCr41 <| fA RCr42 <| fA RCr43 <| fA RCr44 <| fA RCr45 <| fA RCr46 <| fA RCr47 <| fA RCr48 <| fA RCr49 <| fA RCr50 <| fA RCr51 <| fA RCr52 <| fA RCr53 <| fA RCr54 <| fA RCr55 <| fA RCr56 <| fA RCr57 <| fA RCr58 <| fA RCr59 <| fA RCr60 <| fA RCr61 <| fA RCr62 <| fA RCr63 <| nA)
noncomputable def RCL1 : List (Nat × Sz) := (213, tabSz RCt0) :: RCL0
theorem RCL1_ok : ∀ p ∈ RCL1, OkZ Tryz.prog p.1 p.2 := fA RCt0_ok <| RCL0_ok
def RCe64 : Ent := ([(.im (.sl true 0 []))], [], (false, (.im (.int .i64 0)), []))
theorem RCr64 : rE (gB RCL1) 86 RCe64 = some RCe64.2.2 := by kernel_rfl
def RCe65 : Ent := ([(.im RCc0)], [], (false, (.im (.int .i64 1)), []))
theorem RCr65 : rE (gB RCL1) 86 RCe65 = some RCe65.2.2 := by kernel_rfl
def RCe66 : Ent := ([(.im RCc1)], [], (false, (.im (.int .i64 3)), []))
theorem RCr66 : rE (gB RCL1) 86 RCe66 = some RCe66.2.2 := by kernel_rfl
def RCe67 : Ent := ([(.im RCc3)], [], (false, (.im (.int .i64 2)), []))
theorem RCr67 : rE (gB RCL1) 86 RCe67 = some RCe67.2.2 := by kernel_rfl
def RCe68 : Ent := ([(.im (.sl false 7 [(.agg [(.int .i64 4), (.int .i64 0), (.str []), (.str []), (.sl true 5 [(.agg [(.int .i64 1), (.str []), (.int .i64 0), (.str [110]), (.sl true 0 [])])]), RCc0, (.sl true 0 [])])]))], [], (false, (.im (.int .i64 2)), []))
theorem RCr68 : rE (gB RCL1) 86 RCe68 = some RCe68.2.2 := by kernel_rfl
def RCe69 : Ent := ([(.im (.sl false 7 [(.agg [(.int .i64 3), (.int .i64 0), (.str [97]), (.str [102]), RCc2, (.sl true 0 []), (.sl true 0 [])])]))], [], (false, (.im (.int .i64 1)), []))
theorem RCr69 : rE (gB RCL1) 86 RCe69 = some RCe69.2.2 := by kernel_rfl
def RCe70 : Ent := ([(.im RCc4)], [], (false, (.im (.int .i64 2)), []))
theorem RCr70 : rE (gB RCL1) 86 RCe70 = some RCe70.2.2 := by kernel_rfl
def RCe71 : Ent := ([(.im (.sl false 7 [(.agg [(.int .i64 3), (.int .i64 0), (.str [114]), (.str [102]), (.sl true 5 [(.agg [(.int .i64 4), (.str [45]), (.int .i64 0), (.str []), (.sl true 5 [(.agg [(.int .i64 1), (.str []), (.int .i64 0), (.str [110]), (.sl true 0 [])]), (.agg [(.int .i64 0), (.str []), (.int .i64 1), (.str []), (.sl true 0 [])])])])]), (.sl true 0 []), (.sl true 0 [])])]))], [], (false, (.im (.int .i64 1)), []))
theorem RCr71 : rE (gB RCL1) 86 RCe71 = some RCe71.2.2 := by kernel_rfl
def RCe72 : Ent := ([(.im (.sl false 7 [(.agg [(.int .i64 3), (.int .i64 0), (.str [97]), (.str [102]), (.sl true 5 [(.agg [(.int .i64 0), (.str []), (.int .i64 1), (.str []), (.sl true 0 [])])]), (.sl true 0 []), (.sl true 0 [])])]))], [], (false, (.im (.int .i64 1)), []))
theorem RCr72 : rE (gB RCL1) 86 RCe72 = some RCe72.2.2 := by kernel_rfl
def RCe73 : Ent := ([(.im RCc5)], [], (false, (.im (.int .i64 2)), []))
theorem RCr73 : rE (gB RCL1) 86 RCe73 = some RCe73.2.2 := by kernel_rfl
def RCe74 : Ent := ([(.im (.sl false 7 [(.agg [(.int .i64 3), (.int .i64 0), (.str [97]), (.str [102]), (.sl true 5 [(.agg [(.int .i64 0), (.str []), (.int .i64 2), (.str []), (.sl true 0 [])])]), (.sl true 0 []), (.sl true 0 [])])]))], [], (false, (.im (.int .i64 1)), []))
theorem RCr74 : rE (gB RCL1) 86 RCe74 = some RCe74.2.2 := by kernel_rfl
def RCe75 : Ent := ([(.im RCc6)], [], (false, (.im (.int .i64 2)), []))
theorem RCr75 : rE (gB RCL1) 86 RCe75 = some RCe75.2.2 := by kernel_rfl
def RCe76 : Ent := ([(.im (.sl false 7 [(.agg [(.int .i64 3), (.int .i64 0), (.str [97]), (.str [102]), (.sl true 5 [(.agg [(.int .i64 0), (.str []), (.int .i64 3), (.str []), (.sl true 0 [])])]), (.sl true 0 []), (.sl true 0 [])])]))], [], (false, (.im (.int .i64 1)), []))
theorem RCr76 : rE (gB RCL1) 86 RCe76 = some RCe76.2.2 := by kernel_rfl
def RCe77 : Ent := ([(.im RCc7)], [], (false, (.im (.int .i64 2)), []))
theorem RCr77 : rE (gB RCL1) 86 RCe77 = some RCe77.2.2 := by kernel_rfl
def RCe78 : Ent := ([(.im (.sl false 7 [(.agg [(.int .i64 3), (.int .i64 0), (.str [97]), (.str [102]), (.sl true 5 [(.agg [(.int .i64 0), (.str []), (.int .i64 4), (.str []), (.sl true 0 [])])]), (.sl true 0 []), (.sl true 0 [])])]))], [], (false, (.im (.int .i64 1)), []))
theorem RCr78 : rE (gB RCL1) 86 RCe78 = some RCe78.2.2 := by kernel_rfl
def RCe79 : Ent := ([(.im RCc8)], [], (false, (.im (.int .i64 2)), []))
theorem RCr79 : rE (gB RCL1) 86 RCe79 = some RCe79.2.2 := by kernel_rfl
def RCe80 : Ent := ([(.im (.sl false 7 [(.agg [(.int .i64 3), (.int .i64 0), (.str [97]), (.str [102]), (.sl true 5 [(.agg [(.int .i64 0), (.str []), (.int .i64 5), (.str []), (.sl true 0 [])])]), (.sl true 0 []), (.sl true 0 [])])]))], [], (false, (.im (.int .i64 1)), []))
theorem RCr80 : rE (gB RCL1) 86 RCe80 = some RCe80.2.2 := by kernel_rfl
def RCe81 : Ent := ([(.im RCc9)], [], (false, (.im (.int .i64 2)), []))
theorem RCr81 : rE (gB RCL1) 86 RCe81 = some RCe81.2.2 := by kernel_rfl
def RCe82 : Ent := ([(.im (.sl false 7 [(.agg [(.int .i64 3), (.int .i64 0), (.str [97]), (.str [102]), (.sl true 5 [(.agg [(.int .i64 0), (.str []), (.int .i64 6), (.str []), (.sl true 0 [])])]), (.sl true 0 []), (.sl true 0 [])])]))], [], (false, (.im (.int .i64 1)), []))
theorem RCr82 : rE (gB RCL1) 86 RCe82 = some RCe82.2.2 := by kernel_rfl
def RCe83 : Ent := ([(.im RCc10)], [], (false, (.im (.int .i64 2)), []))
theorem RCr83 : rE (gB RCL1) 86 RCe83 = some RCe83.2.2 := by kernel_rfl
def RCe84 : Ent := ([(.im (.sl false 7 [(.agg [(.int .i64 3), (.int .i64 0), (.str [97]), (.str [102]), (.sl true 5 [(.agg [(.int .i64 0), (.str []), (.int .i64 7), (.str []), (.sl true 0 [])])]), (.sl true 0 []), (.sl true 0 [])])]))], [], (false, (.im (.int .i64 1)), []))
theorem RCr84 : rE (gB RCL1) 86 RCe84 = some RCe84.2.2 := by kernel_rfl
def RCe85 : Ent := ([(.im RCc11)], [], (false, (.im (.int .i64 2)), []))
theorem RCr85 : rE (gB RCL1) 86 RCe85 = some RCe85.2.2 := by kernel_rfl
def RCe86 : Ent := ([(.im (.sl false 7 [(.agg [(.int .i64 3), (.int .i64 0), (.str [97]), (.str [102]), (.sl true 5 [(.agg [(.int .i64 0), (.str []), (.int .i64 8), (.str []), (.sl true 0 [])])]), (.sl true 0 []), (.sl true 0 [])])]))], [], (false, (.im (.int .i64 1)), []))
theorem RCr86 : rE (gB RCL1) 86 RCe86 = some RCe86.2.2 := by kernel_rfl
def RCe87 : Ent := ([(.im RCc12)], [], (false, (.im (.int .i64 2)), []))
theorem RCr87 : rE (gB RCL1) 86 RCe87 = some RCe87.2.2 := by kernel_rfl
def RCe88 : Ent := ([(.im (.sl false 7 [(.agg [(.int .i64 3), (.int .i64 0), (.str [97]), (.str [102]), (.sl true 5 [(.agg [(.int .i64 0), (.str []), (.int .i64 9), (.str []), (.sl true 0 [])])]), (.sl true 0 []), (.sl true 0 [])])]))], [], (false, (.im (.int .i64 1)), []))
theorem RCr88 : rE (gB RCL1) 86 RCe88 = some RCe88.2.2 := by kernel_rfl
def RCe89 : Ent := ([(.im RCc13)], [], (false, (.im (.int .i64 2)), []))
theorem RCr89 : rE (gB RCL1) 86 RCe89 = some RCe89.2.2 := by kernel_rfl
def RCe90 : Ent := ([(.im (.sl false 7 [(.agg [(.int .i64 3), (.int .i64 0), (.str [97]), (.str [102]), (.sl true 5 [(.agg [(.int .i64 0), (.str []), (.int .i64 10), (.str []), (.sl true 0 [])])]), (.sl true 0 []), (.sl true 0 [])])]))], [], (false, (.im (.int .i64 1)), []))
theorem RCr90 : rE (gB RCL1) 86 RCe90 = some RCe90.2.2 := by kernel_rfl
def RCe91 : Ent := ([(.im RCc14)], [], (false, (.im (.int .i64 2)), []))
theorem RCr91 : rE (gB RCL1) 86 RCe91 = some RCe91.2.2 := by kernel_rfl
def RCe92 : Ent := ([(.im (.sl false 7 [(.agg [(.int .i64 3), (.int .i64 0), (.str [97]), (.str [102]), (.sl true 5 [(.agg [(.int .i64 0), (.str []), (.int .i64 11), (.str []), (.sl true 0 [])])]), (.sl true 0 []), (.sl true 0 [])])]))], [], (false, (.im (.int .i64 1)), []))
theorem RCr92 : rE (gB RCL1) 86 RCe92 = some RCe92.2.2 := by kernel_rfl
def RCe93 : Ent := ([(.im RCc15)], [], (false, (.im (.int .i64 2)), []))
theorem RCr93 : rE (gB RCL1) 86 RCe93 = some RCe93.2.2 := by kernel_rfl
def RCe94 : Ent := ([(.im (.sl false 7 [(.agg [(.int .i64 3), (.int .i64 0), (.str [97]), (.str [102]), (.sl true 5 [(.agg [(.int .i64 0), (.str []), (.int .i64 12), (.str []), (.sl true 0 [])])]), (.sl true 0 []), (.sl true 0 [])])]))], [], (false, (.im (.int .i64 1)), []))
theorem RCr94 : rE (gB RCL1) 86 RCe94 = some RCe94.2.2 := by kernel_rfl
def RCe95 : Ent := ([(.im RCc16)], [], (false, (.im (.int .i64 2)), []))
theorem RCr95 : rE (gB RCL1) 86 RCe95 = some RCe95.2.2 := by kernel_rfl
def RCe96 : Ent := ([(.im (.sl false 7 [(.agg [(.int .i64 3), (.int .i64 0), (.str [97]), (.str [102]), (.sl true 5 [(.agg [(.int .i64 0), (.str []), (.int .i64 13), (.str []), (.sl true 0 [])])]), (.sl true 0 []), (.sl true 0 [])])]))], [], (false, (.im (.int .i64 1)), []))
theorem RCr96 : rE (gB RCL1) 86 RCe96 = some RCe96.2.2 := by kernel_rfl
def RCe97 : Ent := ([(.im RCc17)], [], (false, (.im (.int .i64 2)), []))
theorem RCr97 : rE (gB RCL1) 86 RCe97 = some RCe97.2.2 := by kernel_rfl
def RCe98 : Ent := ([(.im (.sl false 7 [(.agg [(.int .i64 3), (.int .i64 0), (.str [97]), (.str [102]), (.sl true 5 [(.agg [(.int .i64 0), (.str []), (.int .i64 14), (.str []), (.sl true 0 [])])]), (.sl true 0 []), (.sl true 0 [])])]))], [], (false, (.im (.int .i64 1)), []))
theorem RCr98 : rE (gB RCL1) 86 RCe98 = some RCe98.2.2 := by kernel_rfl
def RCe99 : Ent := ([(.im RCc18)], [], (false, (.im (.int .i64 2)), []))
theorem RCr99 : rE (gB RCL1) 86 RCe99 = some RCe99.2.2 := by kernel_rfl
def RCe100 : Ent := ([(.im (.sl false 7 [(.agg [(.int .i64 3), (.int .i64 0), (.str [97]), (.str [102]), (.sl true 5 [(.agg [(.int .i64 0), (.str []), (.int .i64 15), (.str []), (.sl true 0 [])])]), (.sl true 0 []), (.sl true 0 [])])]))], [], (false, (.im (.int .i64 1)), []))
theorem RCr100 : rE (gB RCL1) 86 RCe100 = some RCe100.2.2 := by kernel_rfl
def RCe101 : Ent := ([(.im RCc19)], [], (false, (.im (.int .i64 2)), []))
theorem RCr101 : rE (gB RCL1) 86 RCe101 = some RCe101.2.2 := by kernel_rfl
def RCe102 : Ent := ([(.im (.sl false 7 [(.agg [(.int .i64 3), (.int .i64 0), (.str [97]), (.str [102]), (.sl true 5 [(.agg [(.int .i64 0), (.str []), (.int .i64 16), (.str []), (.sl true 0 [])])]), (.sl true 0 []), (.sl true 0 [])])]))], [], (false, (.im (.int .i64 1)), []))
theorem RCr102 : rE (gB RCL1) 86 RCe102 = some RCe102.2.2 := by kernel_rfl
def RCe103 : Ent := ([(.im RCc20)], [], (false, (.im (.int .i64 2)), []))
theorem RCr103 : rE (gB RCL1) 86 RCe103 = some RCe103.2.2 := by kernel_rfl
def RCe104 : Ent := ([(.im (.sl false 7 [(.agg [(.int .i64 3), (.int .i64 0), (.str [97]), (.str [102]), (.sl true 5 [(.agg [(.int .i64 0), (.str []), (.int .i64 17), (.str []), (.sl true 0 [])])]), (.sl true 0 []), (.sl true 0 [])])]))], [], (false, (.im (.int .i64 1)), []))
theorem RCr104 : rE (gB RCL1) 86 RCe104 = some RCe104.2.2 := by kernel_rfl
def RCe105 : Ent := ([(.im RCc21)], [], (false, (.im (.int .i64 2)), []))
theorem RCr105 : rE (gB RCL1) 86 RCe105 = some RCe105.2.2 := by kernel_rfl
def RCe106 : Ent := ([(.im (.sl false 7 [(.agg [(.int .i64 3), (.int .i64 0), (.str [97]), (.str [102]), (.sl true 5 [(.agg [(.int .i64 0), (.str []), (.int .i64 18), (.str []), (.sl true 0 [])])]), (.sl true 0 []), (.sl true 0 [])])]))], [], (false, (.im (.int .i64 1)), []))
theorem RCr106 : rE (gB RCL1) 86 RCe106 = some RCe106.2.2 := by kernel_rfl
def RCe107 : Ent := ([(.im RCc22)], [], (false, (.im (.int .i64 2)), []))
theorem RCr107 : rE (gB RCL1) 86 RCe107 = some RCe107.2.2 := by kernel_rfl
def RCe108 : Ent := ([(.im (.sl false 7 [(.agg [(.int .i64 3), (.int .i64 0), (.str [97]), (.str [102]), (.sl true 5 [(.agg [(.int .i64 0), (.str []), (.int .i64 19), (.str []), (.sl true 0 [])])]), (.sl true 0 []), (.sl true 0 [])])]))], [], (false, (.im (.int .i64 1)), []))
theorem RCr108 : rE (gB RCL1) 86 RCe108 = some RCe108.2.2 := by kernel_rfl
def RCe109 : Ent := ([(.im RCc23)], [], (false, (.im (.int .i64 2)), []))
theorem RCr109 : rE (gB RCL1) 86 RCe109 = some RCe109.2.2 := by kernel_rfl
def RCe110 : Ent := ([(.im (.sl false 7 [(.agg [(.int .i64 3), (.int .i64 0), (.str [97]), (.str [102]), (.sl true 5 [(.agg [(.int .i64 0), (.str []), (.int .i64 20), (.str []), (.sl true 0 [])])]), (.sl true 0 []), (.sl true 0 [])])]))], [], (false, (.im (.int .i64 1)), []))
theorem RCr110 : rE (gB RCL1) 86 RCe110 = some RCe110.2.2 := by kernel_rfl
def RCe111 : Ent := ([(.im RCc24)], [], (false, (.im (.int .i64 2)), []))
theorem RCr111 : rE (gB RCL1) 86 RCe111 = some RCe111.2.2 := by kernel_rfl
def RCe112 : Ent := ([(.im (.sl false 7 [(.agg [(.int .i64 3), (.int .i64 0), (.str [97]), (.str [102]), (.sl true 5 [(.agg [(.int .i64 0), (.str []), (.int .i64 21), (.str []), (.sl true 0 [])])]), (.sl true 0 []), (.sl true 0 [])])]))], [], (false, (.im (.int .i64 1)), []))
theorem RCr112 : rE (gB RCL1) 86 RCe112 = some RCe112.2.2 := by kernel_rfl
def RCe113 : Ent := ([(.im RCc25)], [], (false, (.im (.int .i64 2)), []))
theorem RCr113 : rE (gB RCL1) 86 RCe113 = some RCe113.2.2 := by kernel_rfl
def RCe114 : Ent := ([(.im (.sl false 7 [(.agg [(.int .i64 3), (.int .i64 0), (.str [97]), (.str [102]), (.sl true 5 [(.agg [(.int .i64 0), (.str []), (.int .i64 22), (.str []), (.sl true 0 [])])]), (.sl true 0 []), (.sl true 0 [])])]))], [], (false, (.im (.int .i64 1)), []))
theorem RCr114 : rE (gB RCL1) 86 RCe114 = some RCe114.2.2 := by kernel_rfl
def RCe115 : Ent := ([(.im RCc26)], [], (false, (.im (.int .i64 2)), []))
theorem RCr115 : rE (gB RCL1) 86 RCe115 = some RCe115.2.2 := by kernel_rfl
def RCe116 : Ent := ([(.im (.sl false 7 [(.agg [(.int .i64 3), (.int .i64 0), (.str [97]), (.str [102]), (.sl true 5 [(.agg [(.int .i64 0), (.str []), (.int .i64 23), (.str []), (.sl true 0 [])])]), (.sl true 0 []), (.sl true 0 [])])]))], [], (false, (.im (.int .i64 1)), []))
theorem RCr116 : rE (gB RCL1) 86 RCe116 = some RCe116.2.2 := by kernel_rfl
def RCe117 : Ent := ([(.im RCc27)], [], (false, (.im (.int .i64 2)), []))
theorem RCr117 : rE (gB RCL1) 86 RCe117 = some RCe117.2.2 := by kernel_rfl
def RCe118 : Ent := ([(.im (.sl false 7 [(.agg [(.int .i64 3), (.int .i64 0), (.str [97]), (.str [102]), (.sl true 5 [(.agg [(.int .i64 0), (.str []), (.int .i64 24), (.str []), (.sl true 0 [])])]), (.sl true 0 []), (.sl true 0 [])])]))], [], (false, (.im (.int .i64 1)), []))
theorem RCr118 : rE (gB RCL1) 86 RCe118 = some RCe118.2.2 := by kernel_rfl
def RCe119 : Ent := ([(.im RCc28)], [], (false, (.im (.int .i64 2)), []))
theorem RCr119 : rE (gB RCL1) 86 RCe119 = some RCe119.2.2 := by kernel_rfl
def RCe120 : Ent := ([(.im (.sl false 7 [(.agg [(.int .i64 3), (.int .i64 0), (.str [97]), (.str [102]), (.sl true 5 [(.agg [(.int .i64 0), (.str []), (.int .i64 25), (.str []), (.sl true 0 [])])]), (.sl true 0 []), (.sl true 0 [])])]))], [], (false, (.im (.int .i64 1)), []))
theorem RCr120 : rE (gB RCL1) 86 RCe120 = some RCe120.2.2 := by kernel_rfl
def RCe121 : Ent := ([(.im RCc29)], [], (false, (.im (.int .i64 2)), []))
theorem RCr121 : rE (gB RCL1) 86 RCe121 = some RCe121.2.2 := by kernel_rfl
def RCe122 : Ent := ([(.im (.sl false 7 [(.agg [(.int .i64 3), (.int .i64 0), (.str [97]), (.str [102]), (.sl true 5 [(.agg [(.int .i64 0), (.str []), (.int .i64 26), (.str []), (.sl true 0 [])])]), (.sl true 0 []), (.sl true 0 [])])]))], [], (false, (.im (.int .i64 1)), []))
theorem RCr122 : rE (gB RCL1) 86 RCe122 = some RCe122.2.2 := by kernel_rfl
def RCe123 : Ent := ([(.im RCc30)], [], (false, (.im (.int .i64 2)), []))
theorem RCr123 : rE (gB RCL1) 86 RCe123 = some RCe123.2.2 := by kernel_rfl
def RCe124 : Ent := ([(.im (.sl false 7 [(.agg [(.int .i64 3), (.int .i64 0), (.str [97]), (.str [102]), (.sl true 5 [(.agg [(.int .i64 0), (.str []), (.int .i64 27), (.str []), (.sl true 0 [])])]), (.sl true 0 []), (.sl true 0 [])])]))], [], (false, (.im (.int .i64 1)), []))
theorem RCr124 : rE (gB RCL1) 86 RCe124 = some RCe124.2.2 := by kernel_rfl
def RCe125 : Ent := ([(.im RCc31)], [], (false, (.im (.int .i64 2)), []))
theorem RCr125 : rE (gB RCL1) 86 RCe125 = some RCe125.2.2 := by kernel_rfl
def RCe126 : Ent := ([(.im (.sl false 7 [(.agg [(.int .i64 3), (.int .i64 0), (.str [97]), (.str [102]), (.sl true 5 [(.agg [(.int .i64 0), (.str []), (.int .i64 28), (.str []), (.sl true 0 [])])]), (.sl true 0 []), (.sl true 0 [])])]))], [], (false, (.im (.int .i64 1)), []))
theorem RCr126 : rE (gB RCL1) 86 RCe126 = some RCe126.2.2 := by kernel_rfl
def RCe127 : Ent := ([(.im RCc32)], [], (false, (.im (.int .i64 2)), []))
theorem RCr127 : rE (gB RCL1) 86 RCe127 = some RCe127.2.2 := by kernel_rfl
def RCe128 : Ent := ([(.im (.sl false 7 [(.agg [(.int .i64 3), (.int .i64 0), (.str [97]), (.str [102]), (.sl true 5 [(.agg [(.int .i64 0), (.str []), (.int .i64 29), (.str []), (.sl true 0 [])])]), (.sl true 0 []), (.sl true 0 [])])]))], [], (false, (.im (.int .i64 1)), []))
theorem RCr128 : rE (gB RCL1) 86 RCe128 = some RCe128.2.2 := by kernel_rfl
def RCe129 : Ent := ([(.im RCc33)], [], (false, (.im (.int .i64 2)), []))
theorem RCr129 : rE (gB RCL1) 86 RCe129 = some RCe129.2.2 := by kernel_rfl
def RCe130 : Ent := ([(.im (.sl false 7 [(.agg [(.int .i64 3), (.int .i64 0), (.str [97]), (.str [102]), (.sl true 5 [(.agg [(.int .i64 0), (.str []), (.int .i64 30), (.str []), (.sl true 0 [])])]), (.sl true 0 []), (.sl true 0 [])])]))], [], (false, (.im (.int .i64 1)), []))
theorem RCr130 : rE (gB RCL1) 86 RCe130 = some RCe130.2.2 := by kernel_rfl
def RCe131 : Ent := ([(.im RCc34)], [], (false, (.im (.int .i64 2)), []))
theorem RCr131 : rE (gB RCL1) 86 RCe131 = some RCe131.2.2 := by kernel_rfl
def RCe132 : Ent := ([(.im (.sl false 7 [(.agg [(.int .i64 3), (.int .i64 0), (.str [97]), (.str [102]), (.sl true 5 [(.agg [(.int .i64 0), (.str []), (.int .i64 31), (.str []), (.sl true 0 [])])]), (.sl true 0 []), (.sl true 0 [])])]))], [], (false, (.im (.int .i64 1)), []))
theorem RCr132 : rE (gB RCL1) 86 RCe132 = some RCe132.2.2 := by kernel_rfl
def RCe133 : Ent := ([(.im RCc35)], [], (false, (.im (.int .i64 2)), []))
theorem RCr133 : rE (gB RCL1) 86 RCe133 = some RCe133.2.2 := by kernel_rfl
def RCe134 : Ent := ([(.im (.sl false 7 [(.agg [(.int .i64 3), (.int .i64 0), (.str [97]), (.str [102]), (.sl true 5 [(.agg [(.int .i64 0), (.str []), (.int .i64 32), (.str []), (.sl true 0 [])])]), (.sl true 0 []), (.sl true 0 [])])]))], [], (false, (.im (.int .i64 1)), []))
theorem RCr134 : rE (gB RCL1) 86 RCe134 = some RCe134.2.2 := by kernel_rfl
def RCe135 : Ent := ([(.im RCc36)], [], (false, (.im (.int .i64 2)), []))
theorem RCr135 : rE (gB RCL1) 86 RCe135 = some RCe135.2.2 := by kernel_rfl
def RCe136 : Ent := ([(.im (.sl false 7 [(.agg [(.int .i64 3), (.int .i64 0), (.str [97]), (.str [102]), (.sl true 5 [(.agg [(.int .i64 0), (.str []), (.int .i64 33), (.str []), (.sl true 0 [])])]), (.sl true 0 []), (.sl true 0 [])])]))], [], (false, (.im (.int .i64 1)), []))
theorem RCr136 : rE (gB RCL1) 86 RCe136 = some RCe136.2.2 := by kernel_rfl
def RCe137 : Ent := ([(.im RCc37)], [], (false, (.im (.int .i64 2)), []))
theorem RCr137 : rE (gB RCL1) 86 RCe137 = some RCe137.2.2 := by kernel_rfl
def RCe138 : Ent := ([(.im (.sl false 7 [(.agg [(.int .i64 3), (.int .i64 0), (.str [97]), (.str [102]), (.sl true 5 [(.agg [(.int .i64 0), (.str []), (.int .i64 34), (.str []), (.sl true 0 [])])]), (.sl true 0 []), (.sl true 0 [])])]))], [], (false, (.im (.int .i64 1)), []))
theorem RCr138 : rE (gB RCL1) 86 RCe138 = some RCe138.2.2 := by kernel_rfl
def RCe139 : Ent := ([(.im RCc38)], [], (false, (.im (.int .i64 2)), []))
theorem RCr139 : rE (gB RCL1) 86 RCe139 = some RCe139.2.2 := by kernel_rfl
def RCe140 : Ent := ([(.im (.sl false 7 [(.agg [(.int .i64 3), (.int .i64 0), (.str [97]), (.str [102]), (.sl true 5 [(.agg [(.int .i64 0), (.str []), (.int .i64 35), (.str []), (.sl true 0 [])])]), (.sl true 0 []), (.sl true 0 [])])]))], [], (false, (.im (.int .i64 1)), []))
theorem RCr140 : rE (gB RCL1) 86 RCe140 = some RCe140.2.2 := by kernel_rfl
def RCe141 : Ent := ([(.im RCc39)], [], (false, (.im (.int .i64 2)), []))
theorem RCr141 : rE (gB RCL1) 86 RCe141 = some RCe141.2.2 := by kernel_rfl
def RCe142 : Ent := ([(.im (.sl false 7 [(.agg [(.int .i64 3), (.int .i64 0), (.str [97]), (.str [102]), (.sl true 5 [(.agg [(.int .i64 0), (.str []), (.int .i64 36), (.str []), (.sl true 0 [])])]), (.sl true 0 []), (.sl true 0 [])])]))], [], (false, (.im (.int .i64 1)), []))
theorem RCr142 : rE (gB RCL1) 86 RCe142 = some RCe142.2.2 := by kernel_rfl
def RCe143 : Ent := ([(.im RCc40)], [], (false, (.im (.int .i64 2)), []))
theorem RCr143 : rE (gB RCL1) 86 RCe143 = some RCe143.2.2 := by kernel_rfl
def RCe144 : Ent := ([(.im (.sl false 7 [(.agg [(.int .i64 3), (.int .i64 0), (.str [97]), (.str [102]), (.sl true 5 [(.agg [(.int .i64 0), (.str []), (.int .i64 37), (.str []), (.sl true 0 [])])]), (.sl true 0 []), (.sl true 0 [])])]))], [], (false, (.im (.int .i64 1)), []))
theorem RCr144 : rE (gB RCL1) 86 RCe144 = some RCe144.2.2 := by kernel_rfl
def RCe145 : Ent := ([(.im RCc41)], [], (false, (.im (.int .i64 2)), []))
theorem RCr145 : rE (gB RCL1) 86 RCe145 = some RCe145.2.2 := by kernel_rfl
def RCe146 : Ent := ([(.im (.sl false 7 [(.agg [(.int .i64 3), (.int .i64 0), (.str [97]), (.str [102]), (.sl true 5 [(.agg [(.int .i64 0), (.str []), (.int .i64 38), (.str []), (.sl true 0 [])])]), (.sl true 0 []), (.sl true 0 [])])]))], [], (false, (.im (.int .i64 1)), []))
theorem RCr146 : rE (gB RCL1) 86 RCe146 = some RCe146.2.2 := by kernel_rfl
def RCe147 : Ent := ([(.im RCc42)], [], (false, (.im (.int .i64 2)), []))
theorem RCr147 : rE (gB RCL1) 86 RCe147 = some RCe147.2.2 := by kernel_rfl
def RCe148 : Ent := ([(.im RCc43)], [], (false, (.im (.int .i64 2)), []))
theorem RCr148 : rE (gB RCL1) 86 RCe148 = some RCe148.2.2 := by kernel_rfl
def RCe149 : Ent := ([(.im RCc44)], [], (false, (.im (.int .i64 2)), []))
theorem RCr149 : rE (gB RCL1) 86 RCe149 = some RCe149.2.2 := by kernel_rfl
def RCe150 : Ent := ([(.im RCc45)], [], (false, (.im (.int .i64 2)), []))
theorem RCr150 : rE (gB RCL1) 86 RCe150 = some RCe150.2.2 := by kernel_rfl
def RCe151 : Ent := ([(.im RCc46)], [], (false, (.im (.int .i64 2)), []))
theorem RCr151 : rE (gB RCL1) 86 RCe151 = some RCe151.2.2 := by kernel_rfl
def RCe152 : Ent := ([(.im RCc47)], [], (false, (.im (.int .i64 2)), []))
theorem RCr152 : rE (gB RCL1) 86 RCe152 = some RCe152.2.2 := by kernel_rfl
def RCe153 : Ent := ([(.im RCc48)], [], (false, (.im (.int .i64 2)), []))
theorem RCr153 : rE (gB RCL1) 86 RCe153 = some RCe153.2.2 := by kernel_rfl
def RCe154 : Ent := ([(.im RCc49)], [], (false, (.im (.int .i64 2)), []))
theorem RCr154 : rE (gB RCL1) 86 RCe154 = some RCe154.2.2 := by kernel_rfl
def RCe155 : Ent := ([(.im RCc50)], [], (false, (.im (.int .i64 2)), []))
theorem RCr155 : rE (gB RCL1) 86 RCe155 = some RCe155.2.2 := by kernel_rfl
def RCe156 : Ent := ([(.im RCc51)], [], (false, (.im (.int .i64 2)), []))
theorem RCr156 : rE (gB RCL1) 86 RCe156 = some RCe156.2.2 := by kernel_rfl
def RCe157 : Ent := ([(.im RCc52)], [], (false, (.im (.int .i64 2)), []))
theorem RCr157 : rE (gB RCL1) 86 RCe157 = some RCe157.2.2 := by kernel_rfl
def RCe158 : Ent := ([(.im RCc53)], [], (false, (.im (.int .i64 2)), []))
theorem RCr158 : rE (gB RCL1) 86 RCe158 = some RCe158.2.2 := by kernel_rfl
def RCe159 : Ent := ([(.im RCc54)], [], (false, (.im (.int .i64 2)), []))
theorem RCr159 : rE (gB RCL1) 86 RCe159 = some RCe159.2.2 := by kernel_rfl
def RCe160 : Ent := ([(.im RCc55)], [], (false, (.im (.int .i64 2)), []))
theorem RCr160 : rE (gB RCL1) 86 RCe160 = some RCe160.2.2 := by kernel_rfl
def RCe161 : Ent := ([(.im RCc56)], [], (false, (.im (.int .i64 2)), []))
theorem RCr161 : rE (gB RCL1) 86 RCe161 = some RCe161.2.2 := by kernel_rfl
def RCe162 : Ent := ([(.im RCc57)], [], (false, (.im (.int .i64 2)), []))
theorem RCr162 : rE (gB RCL1) 86 RCe162 = some RCe162.2.2 := by kernel_rfl
def RCe163 : Ent := ([(.im RCc58)], [], (false, (.im (.int .i64 2)), []))
theorem RCr163 : rE (gB RCL1) 86 RCe163 = some RCe163.2.2 := by kernel_rfl
def RCe164 : Ent := ([(.im RCc59)], [], (false, (.im (.int .i64 2)), []))
theorem RCr164 : rE (gB RCL1) 86 RCe164 = some RCe164.2.2 := by kernel_rfl
def RCe165 : Ent := ([(.im RCc60)], [], (false, (.im (.int .i64 2)), []))
theorem RCr165 : rE (gB RCL1) 86 RCe165 = some RCe165.2.2 := by kernel_rfl
def RCe166 : Ent := ([(.im RCc61)], [], (false, (.im (.int .i64 2)), []))
theorem RCr166 : rE (gB RCL1) 86 RCe166 = some RCe166.2.2 := by kernel_rfl
def RCe167 : Ent := ([(.im RCc62)], [], (false, (.im (.int .i64 2)), []))
theorem RCr167 : rE (gB RCL1) 86 RCe167 = some RCe167.2.2 := by kernel_rfl
def RCt1 : Tabl := [RCe64, RCe65, RCe66, RCe67, RCe68, RCe69, RCe70, RCe71, RCe72, RCe73, RCe74, RCe75, RCe76, RCe77, RCe78, RCe79, RCe80, RCe81, RCe82, RCe83, RCe84, RCe85, RCe86, RCe87, RCe88, RCe89, RCe90, RCe91, RCe92, RCe93, RCe94, RCe95, RCe96, RCe97, RCe98, RCe99, RCe100, RCe101, RCe102, RCe103, RCe104, RCe105, RCe106, RCe107, RCe108, RCe109, RCe110, RCe111, RCe112, RCe113, RCe114, RCe115, RCe116, RCe117, RCe118, RCe119, RCe120, RCe121, RCe122, RCe123, RCe124, RCe125, RCe126, RCe127, RCe128, RCe129, RCe130, RCe131, RCe132, RCe133, RCe134, RCe135, RCe136, RCe137, RCe138, RCe139, RCe140, RCe141, RCe142, RCe143, RCe144, RCe145, RCe146, RCe147, RCe148, RCe149, RCe150, RCe151, RCe152, RCe153, RCe154, RCe155, RCe156, RCe157, RCe158, RCe159, RCe160, RCe161, RCe162, RCe163, RCe164, RCe165, RCe166, RCe167]
theorem RCt1_ok : OkZ Tryz.prog 86 (tabSz RCt1) := gT RCL1_ok (fA RCr64 <| fA RCr65 <| fA RCr66 <| fA RCr67 <| fA RCr68 <| fA RCr69 <| fA RCr70 <| fA RCr71 <| fA RCr72 <| fA RCr73 <| fA RCr74 <| fA RCr75 <| fA RCr76 <| fA RCr77 <| fA RCr78 <| fA RCr79 <| fA RCr80 <| fA RCr81 <| fA RCr82 <| fA RCr83 <| fA RCr84 <| fA RCr85 <| fA RCr86 <| fA RCr87 <| fA RCr88 <| fA RCr89 <| fA RCr90 <| fA RCr91 <| fA RCr92 <| fA RCr93 <| fA RCr94 <| fA RCr95 <| fA RCr96 <| fA RCr97 <| fA RCr98 <| fA RCr99 <| fA RCr100 <| fA RCr101 <| fA RCr102 <| fA RCr103 <| fA RCr104 <| fA RCr105 <| fA RCr106 <| fA RCr107 <| fA RCr108 <| fA RCr109 <| fA RCr110 <| fA RCr111 <| fA RCr112 <| fA RCr113 <| fA RCr114 <| fA RCr115 <| fA RCr116 <| fA RCr117 <| fA RCr118 <| fA RCr119 <| fA RCr120 <| fA RCr121 <| fA RCr122 <| fA RCr123 <| fA RCr124 <| fA RCr125 <| fA RCr126 <| fA RCr127 <| fA RCr128 <| fA RCr129 <| fA RCr130 <| fA RCr131 <| fA RCr132 <| fA RCr133 <| fA RCr134 <| fA RCr135 <| fA RCr136 <| fA RCr137 <| fA RCr138 <| fA RCr139 <| fA RCr140 <| fA RCr141 <| fA RCr142 <| fA RCr143 <| fA RCr144 <| fA RCr145 <| fA RCr146 <| fA RCr147 <| fA RCr148 <| fA RCr149 <| fA RCr150 <| fA RCr151 <| fA RCr152 <| fA RCr153 <| fA RCr154 <| fA RCr155 <| fA RCr156 <| fA RCr157 <| fA RCr158 <| fA RCr159 <| fA RCr160 <| fA RCr161 <| fA RCr162 <| fA RCr163 <| fA RCr164 <| fA RCr165 <| fA RCr166 <| fA RCr167 <| nA)
noncomputable def RCL2 : List (Nat × Sz) := (86, tabSz RCt1) :: RCL1
theorem RCL2_ok : ∀ p ∈ RCL2, OkZ Tryz.prog p.1 p.2 := fA RCt1_ok <| RCL1_ok
def RCe168 : Ent := ([(.im (.str [45]))], [], (false, (.tup [(.im (.agg [(.str [45]), (.int .i64 9), (.fn (.func 335) [] [])])), (.im (.bool true))]), []))
theorem RCr168 : rE (gB RCL2) 288 RCe168 = some RCe168.2.2 := by kernel_rfl
def RCe169 : Ent := ([(.im (.str [43]))], [], (false, (.tup [(.im (.agg [(.str [43]), (.int .i64 9), (.fn (.func 334) [] [])])), (.im (.bool true))]), []))
theorem RCr169 : rE (gB RCL2) 288 RCe169 = some RCe169.2.2 := by kernel_rfl
def RCt2 : Tabl := [RCe168, RCe169]
theorem RCt2_ok : OkZ Tryz.prog 288 (tabSz RCt2) := gT RCL2_ok (fA RCr168 <| fA RCr169 <| nA)
noncomputable def RCL3 : List (Nat × Sz) := (288, tabSz RCt2) :: RCL2
theorem RCL3_ok : ∀ p ∈ RCL3, OkZ Tryz.prog p.1 p.2 := fA RCt2_ok <| RCL2_ok
def RCe170 : Ent := ([RCc63], [], (false, (.im (.bool true)), []))
theorem RCr170 : rE (gB RCL3) 72 RCe170 = some RCe170.2.2 := by kernel_rfl
def RCt3 : Tabl := [RCe170]
theorem RCt3_ok : OkZ Tryz.prog 72 (tabSz RCt3) := gT RCL3_ok (fA RCr170 <| nA)
noncomputable def RCL4 : List (Nat × Sz) := (72, tabSz RCt3) :: RCL3
theorem RCL4_ok : ∀ p ∈ RCL4, OkZ Tryz.prog p.1 p.2 := fA RCt3_ok <| RCL3_ok
def RCe171 : Ent := ([RCc63], [], (false, (.im (.int .i64 0)), []))
theorem RCr171 : rE (gB RCL4) 53 RCe171 = some RCe171.2.2 := by kernel_rfl
def RCt4 : Tabl := [RCe171]
theorem RCt4_ok : OkZ Tryz.prog 53 (tabSz RCt4) := gT RCL4_ok (fA RCr171 <| nA)
noncomputable def RCL5 : List (Nat × Sz) := (53, tabSz RCt4) :: RCL4
theorem RCL5_ok : ∀ p ∈ RCL5, OkZ Tryz.prog p.1 p.2 := fA RCt4_ok <| RCL4_ok
end Go.Proofs.YtkinbnepkpoofaaGreatDoor