/-
  No cell of these rows narrows 'for every input' (looked for: loops, veiled, ifaces, maps, wideKeys, modest, calm, conditions, laid).
  DERIVED. THE GIVEN ROWS OF THIS SEAT. 11 by the template 'for every input the law returns true; each argument reads behind the call as it read before'; 0 by the template 'total and deterministic' (their statements: YtankppgafdcknaaTotals.lean).
  GIVEN WITH THE SEED: the statements are not yours to turn. If you find one false, say at which input.
  Laid BY PROGRAM, IN A SANDBOX (cutbox-rows.mjs): the forced cells as the released guide's own fill.sh prints them over the translation c4771a1036667738… (all of the seat's roots in one cut). By AI agents, Wed Nov 11 2026. No macro, syntax, notation, axiom, sorry.
-/
import Derived.Test.YtankppgafdcknaaChecked
import GoSem.Claim
import GoSem.ClaimJoined
import GoSem.ClaimMapViews
import Derived.JoinedTies
import Derived.KernelRfl
namespace Go.Proofs.Ytankppgafdcknaa
/- THE CELL 'sum', in the pinned program and in every row, IS THE sha256 OF THE DUMP (.gsa) THAT YtankppgafdcknaaProg.lean LOADS. Nothing in Lean hashes anything: it is a label: what it is worth is what the hold of that sum in a sandbox is worth. -/
noncomputable def Try.pinned : Pinned := { name := "ytankppgafdcknaa", sum := "c4771a1036667738588622e169a2adaeedd13d77f6241005e65599fb2ab5d171", checked := Try.checked }
namespace Rows
def none {H : Type} : Left H := { results := [], args := [] }

/-- 'billhooklaw12.StateSets': WHATEVER THE INPUT: true; the input reads as it did. -/
def stateSetsSpec : ChangeSpec := { name := "stateSets", fn := fun _ => fun
  | [d1, d2, d3] => { results := [.lit (.bool true)], args := [d1, d2, d3] }
  | _ => none }
def stateSetsRow : OpenClaim := { program := "ytankppgafdcknaa", sum := "c4771a1036667738588622e169a2adaeedd13d77f6241005e65599fb2ab5d171", func := "billhook/billhooklaw12.StateSets", spec := "stateSets", unfollowed := true, recurses := true, apart := false }
def StateSetsSaid : Prop := stateSetsRow.holds Try.pinned (OpenSpec.ofChange stateSetsSpec)

/-- ITS FALSE NEIGHBOUR: 'it returns false'. Refute it at one input. -/
def stateSetsWrong : ChangeSpec := { name := "stateSets", fn := fun _ => fun
  | [d1, d2, d3] => { results := [.lit (.bool false)], args := [d1, d2, d3] }
  | _ => none }
def StateSetsWrongFalsely : Prop := stateSetsRow.holds Try.pinned (OpenSpec.ofChange stateSetsWrong)

/-- 'billhooklaw12.StateNames': WHATEVER THE INPUT: true; the input reads as it did. -/
def stateNamesSpec : ChangeSpec := { name := "stateNames", fn := fun _ => fun
  | [d1, d2, d3] => { results := [.lit (.bool true)], args := [d1, d2, d3] }
  | _ => none }
def stateNamesRow : OpenClaim := { program := "ytankppgafdcknaa", sum := "c4771a1036667738588622e169a2adaeedd13d77f6241005e65599fb2ab5d171", func := "billhook/billhooklaw12.StateNames", spec := "stateNames", unfollowed := true, recurses := true, apart := false }
def StateNamesSaid : Prop := stateNamesRow.holds Try.pinned (OpenSpec.ofChange stateNamesSpec)

/-- ITS FALSE NEIGHBOUR: 'it returns false'. Refute it at one input. -/
def stateNamesWrong : ChangeSpec := { name := "stateNames", fn := fun _ => fun
  | [d1, d2, d3] => { results := [.lit (.bool false)], args := [d1, d2, d3] }
  | _ => none }
def StateNamesWrongFalsely : Prop := stateNamesRow.holds Try.pinned (OpenSpec.ofChange stateNamesWrong)

/-- 'billhooklaw10.DomTells': WHATEVER THE INPUT: true; the input reads as it did. -/
def domTellsSpec : ChangeSpec := { name := "domTells", fn := fun _ => fun
  | [d1, d2, d3, d4, d5] => { results := [.lit (.bool true)], args := [d1, d2, d3, d4, d5] }
  | _ => none }
def domTellsRow : OpenClaim := { program := "ytankppgafdcknaa", sum := "c4771a1036667738588622e169a2adaeedd13d77f6241005e65599fb2ab5d171", func := "billhook/billhooklaw10.DomTells", spec := "domTells", unfollowed := true, recurses := true, apart := false }
def DomTellsSaid : Prop := domTellsRow.holds Try.pinned (OpenSpec.ofChange domTellsSpec)

/-- ITS FALSE NEIGHBOUR: 'it returns false'. Refute it at one input. -/
def domTellsWrong : ChangeSpec := { name := "domTells", fn := fun _ => fun
  | [d1, d2, d3, d4, d5] => { results := [.lit (.bool false)], args := [d1, d2, d3, d4, d5] }
  | _ => none }
def DomTellsWrongFalsely : Prop := domTellsRow.holds Try.pinned (OpenSpec.ofChange domTellsWrong)

/-- 'billhooklaw10.DomPost': WHATEVER THE INPUT: true; the input reads as it did. -/
def domPostSpec : ChangeSpec := { name := "domPost", fn := fun _ => fun
  | [d1, d2] => { results := [.lit (.bool true)], args := [d1, d2] }
  | _ => none }
def domPostRow : OpenClaim := { program := "ytankppgafdcknaa", sum := "c4771a1036667738588622e169a2adaeedd13d77f6241005e65599fb2ab5d171", func := "billhook/billhooklaw10.DomPost", spec := "domPost", unfollowed := true, recurses := true, apart := false }
def DomPostSaid : Prop := domPostRow.holds Try.pinned (OpenSpec.ofChange domPostSpec)

/-- ITS FALSE NEIGHBOUR: 'it returns false'. Refute it at one input. -/
def domPostWrong : ChangeSpec := { name := "domPost", fn := fun _ => fun
  | [d1, d2] => { results := [.lit (.bool false)], args := [d1, d2] }
  | _ => none }
def DomPostWrongFalsely : Prop := domPostRow.holds Try.pinned (OpenSpec.ofChange domPostWrong)

/-- 'billhooklaw10.DomLeast': WHATEVER THE INPUT: true; the input reads as it did. -/
def domLeastSpec : ChangeSpec := { name := "domLeast", fn := fun _ => fun
  | [d1, d2] => { results := [.lit (.bool true)], args := [d1, d2] }
  | _ => none }
def domLeastRow : OpenClaim := { program := "ytankppgafdcknaa", sum := "c4771a1036667738588622e169a2adaeedd13d77f6241005e65599fb2ab5d171", func := "billhook/billhooklaw10.DomLeast", spec := "domLeast", unfollowed := true, recurses := true, apart := false }
def DomLeastSaid : Prop := domLeastRow.holds Try.pinned (OpenSpec.ofChange domLeastSpec)

/-- ITS FALSE NEIGHBOUR: 'it returns false'. Refute it at one input. -/
def domLeastWrong : ChangeSpec := { name := "domLeast", fn := fun _ => fun
  | [d1, d2] => { results := [.lit (.bool false)], args := [d1, d2] }
  | _ => none }
def DomLeastWrongFalsely : Prop := domLeastRow.holds Try.pinned (OpenSpec.ofChange domLeastWrong)

/-- 'billhooklaw10.DomControl': WHATEVER THE INPUT: true; the input reads as it did. -/
def domControlSpec : ChangeSpec := { name := "domControl", fn := fun _ => fun
  | [d1, d2] => { results := [.lit (.bool true)], args := [d1, d2] }
  | _ => none }
def domControlRow : OpenClaim := { program := "ytankppgafdcknaa", sum := "c4771a1036667738588622e169a2adaeedd13d77f6241005e65599fb2ab5d171", func := "billhook/billhooklaw10.DomControl", spec := "domControl", unfollowed := true, recurses := true, apart := false }
def DomControlSaid : Prop := domControlRow.holds Try.pinned (OpenSpec.ofChange domControlSpec)

/-- ITS FALSE NEIGHBOUR: 'it returns false'. Refute it at one input. -/
def domControlWrong : ChangeSpec := { name := "domControl", fn := fun _ => fun
  | [d1, d2] => { results := [.lit (.bool false)], args := [d1, d2] }
  | _ => none }
def DomControlWrongFalsely : Prop := domControlRow.holds Try.pinned (OpenSpec.ofChange domControlWrong)

/-- 'billhooklaw10.DomReach': WHATEVER THE INPUT: true; the input reads as it did. -/
def domReachSpec : ChangeSpec := { name := "domReach", fn := fun _ => fun
  | [d1, d2, d3] => { results := [.lit (.bool true)], args := [d1, d2, d3] }
  | _ => none }
def domReachRow : OpenClaim := { program := "ytankppgafdcknaa", sum := "c4771a1036667738588622e169a2adaeedd13d77f6241005e65599fb2ab5d171", func := "billhook/billhooklaw10.DomReach", spec := "domReach", unfollowed := true, recurses := true, apart := false }
def DomReachSaid : Prop := domReachRow.holds Try.pinned (OpenSpec.ofChange domReachSpec)

/-- ITS FALSE NEIGHBOUR: 'it returns false'. Refute it at one input. -/
def domReachWrong : ChangeSpec := { name := "domReach", fn := fun _ => fun
  | [d1, d2, d3] => { results := [.lit (.bool false)], args := [d1, d2, d3] }
  | _ => none }
def DomReachWrongFalsely : Prop := domReachRow.holds Try.pinned (OpenSpec.ofChange domReachWrong)

/-- 'billhooklaw10.DomCut': WHATEVER THE INPUT: true; the input reads as it did. -/
def domCutSpec : ChangeSpec := { name := "domCut", fn := fun _ => fun
  | [d1, d2, d3, d4] => { results := [.lit (.bool true)], args := [d1, d2, d3, d4] }
  | _ => none }
def domCutRow : OpenClaim := { program := "ytankppgafdcknaa", sum := "c4771a1036667738588622e169a2adaeedd13d77f6241005e65599fb2ab5d171", func := "billhook/billhooklaw10.DomCut", spec := "domCut", unfollowed := true, recurses := true, apart := false }
def DomCutSaid : Prop := domCutRow.holds Try.pinned (OpenSpec.ofChange domCutSpec)

/-- ITS FALSE NEIGHBOUR: 'it returns false'. Refute it at one input. -/
def domCutWrong : ChangeSpec := { name := "domCut", fn := fun _ => fun
  | [d1, d2, d3, d4] => { results := [.lit (.bool false)], args := [d1, d2, d3, d4] }
  | _ => none }
def DomCutWrongFalsely : Prop := domCutRow.holds Try.pinned (OpenSpec.ofChange domCutWrong)

/-- 'billhooklaw10.DomLine': WHATEVER THE INPUT: true; the input reads as it did. -/
def domLineSpec : ChangeSpec := { name := "domLine", fn := fun _ => fun
  | [d1, d2, d3] => { results := [.lit (.bool true)], args := [d1, d2, d3] }
  | _ => none }
def domLineRow : OpenClaim := { program := "ytankppgafdcknaa", sum := "c4771a1036667738588622e169a2adaeedd13d77f6241005e65599fb2ab5d171", func := "billhook/billhooklaw10.DomLine", spec := "domLine", unfollowed := true, recurses := true, apart := false }
def DomLineSaid : Prop := domLineRow.holds Try.pinned (OpenSpec.ofChange domLineSpec)

/-- ITS FALSE NEIGHBOUR: 'it returns false'. Refute it at one input. -/
def domLineWrong : ChangeSpec := { name := "domLine", fn := fun _ => fun
  | [d1, d2, d3] => { results := [.lit (.bool false)], args := [d1, d2, d3] }
  | _ => none }
def DomLineWrongFalsely : Prop := domLineRow.holds Try.pinned (OpenSpec.ofChange domLineWrong)

/-- 'billhooklaw12.StateHolds': WHATEVER THE INPUT: true; the input reads as it did. -/
def stateHoldsSpec : ChangeSpec := { name := "stateHolds", fn := fun _ => fun
  | [d1, d2, d3, d4, d5, d6] => { results := [.lit (.bool true)], args := [d1, d2, d3, d4, d5, d6] }
  | _ => none }
def stateHoldsRow : OpenClaim := { program := "ytankppgafdcknaa", sum := "c4771a1036667738588622e169a2adaeedd13d77f6241005e65599fb2ab5d171", func := "billhook/billhooklaw12.StateHolds", spec := "stateHolds", unfollowed := true, recurses := true, apart := false }
def StateHoldsSaid : Prop := stateHoldsRow.holds Try.pinned (OpenSpec.ofChange stateHoldsSpec)

/-- ITS FALSE NEIGHBOUR: 'it returns false'. Refute it at one input. -/
def stateHoldsWrong : ChangeSpec := { name := "stateHolds", fn := fun _ => fun
  | [d1, d2, d3, d4, d5, d6] => { results := [.lit (.bool false)], args := [d1, d2, d3, d4, d5, d6] }
  | _ => none }
def StateHoldsWrongFalsely : Prop := stateHoldsRow.holds Try.pinned (OpenSpec.ofChange stateHoldsWrong)

/-- 'billhooklaw12.StateOrder': WHATEVER THE INPUT: true; the input reads as it did. -/
def stateOrderSpec : ChangeSpec := { name := "stateOrder", fn := fun _ => fun
  | [d1, d2] => { results := [.lit (.bool true)], args := [d1, d2] }
  | _ => none }
def stateOrderRow : OpenClaim := { program := "ytankppgafdcknaa", sum := "c4771a1036667738588622e169a2adaeedd13d77f6241005e65599fb2ab5d171", func := "billhook/billhooklaw12.StateOrder", spec := "stateOrder", unfollowed := true, recurses := true, apart := false }
def StateOrderSaid : Prop := stateOrderRow.holds Try.pinned (OpenSpec.ofChange stateOrderSpec)

/-- ITS FALSE NEIGHBOUR: 'it returns false'. Refute it at one input. -/
def stateOrderWrong : ChangeSpec := { name := "stateOrder", fn := fun _ => fun
  | [d1, d2] => { results := [.lit (.bool false)], args := [d1, d2] }
  | _ => none }
def StateOrderWrongFalsely : Prop := stateOrderRow.holds Try.pinned (OpenSpec.ofChange stateOrderWrong)

/- THE SECOND FORM. 'bulk': how many values and letters a reading holds, each counted each time it is reached (what is shared counts as often as it is met; a slice's spare places count too). A statement '..UptoSaid' is the law's where the arguments, and the package variables that the reading takes, are together of bulk at most 1048576: NARROWER than '..Said'. Prove '..Said' where nothing that the law and all that it calls make is longer than what came in: it says more and counts as full. Else prove '..UptoSaid'. A law counts once. -/
mutual
def uptoBulk {H : Type} : DataW H → Nat
  | .lit (.string bytes) => bytes.length + 1
  | .lit _ => 1
  | .nil => 1
  | .ptr d => uptoBulk d + 1
  | .slice elems spare => uptoBulkAll elems + uptoBulkAll spare + 1
  | .agg parts => uptoBulkAll parts + 1
  | .iface _ d => uptoBulk d + 1
  | .map entries => uptoBulkEntries entries + 1
  | .held _ => 1
def uptoBulkAll {H : Type} : List (DataW H) → Nat
  | [] => 0
  | d :: r => uptoBulk d + uptoBulkAll r
def uptoBulkEntries {H : Type} : List (Lit × DataW H) → Nat
  | [] => 0
  | x :: r => uptoBulkEntry x + uptoBulkEntries r
def uptoBulkEntry {H : Type} : Lit × DataW H → Nat
  | (.string bytes, d) => bytes.length + uptoBulk d + 1
  | (_, d) => uptoBulk d + 1
 end
def uptoSmall : (H : Type) → List (DataW H) → Bool := fun _ ds => decide (uptoBulkAll ds ≤ 1048576)
def OpenSpec.upto (s : _root_.Go.ChangeSpec) : _root_.Go.OpenSpec := { _root_.Go.OpenSpec.ofChange s with cond := some uptoSmall }

/-- 'billhooklaw12.StateSets', WHERE WHAT IT READS IS OF BULK AT MOST 1048576: true; the input reads as it did. -/
def stateSetsUptoRow : OpenClaim := { program := "ytankppgafdcknaa", sum := "c4771a1036667738588622e169a2adaeedd13d77f6241005e65599fb2ab5d171", func := "billhook/billhooklaw12.StateSets", spec := "stateSets", unfollowed := true, recurses := true, apart := false, narrowed := true }
def StateSetsUptoSaid : Prop := stateSetsUptoRow.holds Try.pinned (OpenSpec.upto stateSetsSpec)

/-- 'billhooklaw12.StateNames', WHERE WHAT IT READS IS OF BULK AT MOST 1048576: true; the input reads as it did. -/
def stateNamesUptoRow : OpenClaim := { program := "ytankppgafdcknaa", sum := "c4771a1036667738588622e169a2adaeedd13d77f6241005e65599fb2ab5d171", func := "billhook/billhooklaw12.StateNames", spec := "stateNames", unfollowed := true, recurses := true, apart := false, narrowed := true }
def StateNamesUptoSaid : Prop := stateNamesUptoRow.holds Try.pinned (OpenSpec.upto stateNamesSpec)

/-- 'billhooklaw10.DomTells', WHERE WHAT IT READS IS OF BULK AT MOST 1048576: true; the input reads as it did. -/
def domTellsUptoRow : OpenClaim := { program := "ytankppgafdcknaa", sum := "c4771a1036667738588622e169a2adaeedd13d77f6241005e65599fb2ab5d171", func := "billhook/billhooklaw10.DomTells", spec := "domTells", unfollowed := true, recurses := true, apart := false, narrowed := true }
def DomTellsUptoSaid : Prop := domTellsUptoRow.holds Try.pinned (OpenSpec.upto domTellsSpec)

/-- 'billhooklaw10.DomPost', WHERE WHAT IT READS IS OF BULK AT MOST 1048576: true; the input reads as it did. -/
def domPostUptoRow : OpenClaim := { program := "ytankppgafdcknaa", sum := "c4771a1036667738588622e169a2adaeedd13d77f6241005e65599fb2ab5d171", func := "billhook/billhooklaw10.DomPost", spec := "domPost", unfollowed := true, recurses := true, apart := false, narrowed := true }
def DomPostUptoSaid : Prop := domPostUptoRow.holds Try.pinned (OpenSpec.upto domPostSpec)

/-- 'billhooklaw10.DomLeast', WHERE WHAT IT READS IS OF BULK AT MOST 1048576: true; the input reads as it did. -/
def domLeastUptoRow : OpenClaim := { program := "ytankppgafdcknaa", sum := "c4771a1036667738588622e169a2adaeedd13d77f6241005e65599fb2ab5d171", func := "billhook/billhooklaw10.DomLeast", spec := "domLeast", unfollowed := true, recurses := true, apart := false, narrowed := true }
def DomLeastUptoSaid : Prop := domLeastUptoRow.holds Try.pinned (OpenSpec.upto domLeastSpec)

/-- 'billhooklaw10.DomControl', WHERE WHAT IT READS IS OF BULK AT MOST 1048576: true; the input reads as it did. -/
def domControlUptoRow : OpenClaim := { program := "ytankppgafdcknaa", sum := "c4771a1036667738588622e169a2adaeedd13d77f6241005e65599fb2ab5d171", func := "billhook/billhooklaw10.DomControl", spec := "domControl", unfollowed := true, recurses := true, apart := false, narrowed := true }
def DomControlUptoSaid : Prop := domControlUptoRow.holds Try.pinned (OpenSpec.upto domControlSpec)

/-- 'billhooklaw10.DomReach', WHERE WHAT IT READS IS OF BULK AT MOST 1048576: true; the input reads as it did. -/
def domReachUptoRow : OpenClaim := { program := "ytankppgafdcknaa", sum := "c4771a1036667738588622e169a2adaeedd13d77f6241005e65599fb2ab5d171", func := "billhook/billhooklaw10.DomReach", spec := "domReach", unfollowed := true, recurses := true, apart := false, narrowed := true }
def DomReachUptoSaid : Prop := domReachUptoRow.holds Try.pinned (OpenSpec.upto domReachSpec)

/-- 'billhooklaw10.DomCut', WHERE WHAT IT READS IS OF BULK AT MOST 1048576: true; the input reads as it did. -/
def domCutUptoRow : OpenClaim := { program := "ytankppgafdcknaa", sum := "c4771a1036667738588622e169a2adaeedd13d77f6241005e65599fb2ab5d171", func := "billhook/billhooklaw10.DomCut", spec := "domCut", unfollowed := true, recurses := true, apart := false, narrowed := true }
def DomCutUptoSaid : Prop := domCutUptoRow.holds Try.pinned (OpenSpec.upto domCutSpec)

/-- 'billhooklaw10.DomLine', WHERE WHAT IT READS IS OF BULK AT MOST 1048576: true; the input reads as it did. -/
def domLineUptoRow : OpenClaim := { program := "ytankppgafdcknaa", sum := "c4771a1036667738588622e169a2adaeedd13d77f6241005e65599fb2ab5d171", func := "billhook/billhooklaw10.DomLine", spec := "domLine", unfollowed := true, recurses := true, apart := false, narrowed := true }
def DomLineUptoSaid : Prop := domLineUptoRow.holds Try.pinned (OpenSpec.upto domLineSpec)

/-- 'billhooklaw12.StateHolds', WHERE WHAT IT READS IS OF BULK AT MOST 1048576: true; the input reads as it did. -/
def stateHoldsUptoRow : OpenClaim := { program := "ytankppgafdcknaa", sum := "c4771a1036667738588622e169a2adaeedd13d77f6241005e65599fb2ab5d171", func := "billhook/billhooklaw12.StateHolds", spec := "stateHolds", unfollowed := true, recurses := true, apart := false, narrowed := true }
def StateHoldsUptoSaid : Prop := stateHoldsUptoRow.holds Try.pinned (OpenSpec.upto stateHoldsSpec)

/-- 'billhooklaw12.StateOrder', WHERE WHAT IT READS IS OF BULK AT MOST 1048576: true; the input reads as it did. -/
def stateOrderUptoRow : OpenClaim := { program := "ytankppgafdcknaa", sum := "c4771a1036667738588622e169a2adaeedd13d77f6241005e65599fb2ab5d171", func := "billhook/billhooklaw12.StateOrder", spec := "stateOrder", unfollowed := true, recurses := true, apart := false, narrowed := true }
def StateOrderUptoSaid : Prop := stateOrderUptoRow.holds Try.pinned (OpenSpec.upto stateOrderSpec)

end Rows
end Go.Proofs.Ytankppgafdcknaa
