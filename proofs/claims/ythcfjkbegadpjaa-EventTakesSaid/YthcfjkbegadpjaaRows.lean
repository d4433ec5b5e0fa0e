/-
  No cell of these rows narrows 'for every input' (looked for: loops, veiled, ifaces, maps, wideKeys, modest, calm, conditions, laid).
  DERIVED. THE GIVEN ROWS OF THIS SEAT. 4 by the template 'for every input the law returns true; each argument reads behind the call as it read before'; 0 by the template 'total and deterministic' (their statements: YthcfjkbegadpjaaTotals.lean).
  GIVEN WITH THE SEED: the statements are not yours to turn. If you find one false, say at which input.
  Laid BY PROGRAM, IN A SANDBOX (cutbox-rows.mjs): the forced cells as the released guide's own fill.sh prints them over the translation ba9d92805324cdee… (all of the seat's roots in one cut). By AI agents, Wed Nov 11 2026. No macro, syntax, notation, axiom, sorry.
-/
import Derived.Test.YthcfjkbegadpjaaChecked
import GoSem.Claim
import GoSem.ClaimJoined
import GoSem.ClaimMapViews
import Derived.JoinedTies
import Derived.KernelRfl
namespace Go.Proofs.Ythcfjkbegadpjaa
/- THE CELL 'sum', in the pinned program and in every row, IS THE sha256 OF THE DUMP (.gsa) THAT YthcfjkbegadpjaaProg.lean LOADS. Nothing in Lean hashes anything: it is a label: what it is worth is what the hold of that sum in a sandbox is worth. -/
noncomputable def Try.pinned : Pinned := { name := "ythcfjkbegadpjaa", sum := "ba9d92805324cdee74a72600c22053a7b429f05bc5fb8efd3ea0a6e78d1b5109", checked := Try.checked }
namespace Rows
def none {H : Type} : Left H := { results := [], args := [] }

/-- 'grapevinelaw04.EventNames': WHATEVER THE INPUT: true; the input reads as it did. -/
def eventNamesSpec : ChangeSpec := { name := "eventNames", fn := fun _ => fun
  | [d] => { results := [.lit (.bool true)], args := [d] }
  | _ => none }
def eventNamesRow : OpenClaim := { program := "ythcfjkbegadpjaa", sum := "ba9d92805324cdee74a72600c22053a7b429f05bc5fb8efd3ea0a6e78d1b5109", func := "grapevine/grapevinelaw04.EventNames", spec := "eventNames", unfollowed := true, recurses := true, apart := false }
def EventNamesSaid : Prop := eventNamesRow.holds Try.pinned (OpenSpec.ofChange eventNamesSpec)

/-- ITS FALSE NEIGHBOUR: 'it returns false'. Refute it at one input. -/
def eventNamesWrong : ChangeSpec := { name := "eventNames", fn := fun _ => fun
  | [d] => { results := [.lit (.bool false)], args := [d] }
  | _ => none }
def EventNamesWrongFalsely : Prop := eventNamesRow.holds Try.pinned (OpenSpec.ofChange eventNamesWrong)

/-- 'grapevinelaw04.EventSchemas': WHATEVER THE INPUT: true; the input reads as it did. -/
def eventSchemasSpec : ChangeSpec := { name := "eventSchemas", fn := fun _ => fun
  | [d] => { results := [.lit (.bool true)], args := [d] }
  | _ => none }
def eventSchemasRow : OpenClaim := { program := "ythcfjkbegadpjaa", sum := "ba9d92805324cdee74a72600c22053a7b429f05bc5fb8efd3ea0a6e78d1b5109", func := "grapevine/grapevinelaw04.EventSchemas", spec := "eventSchemas", unfollowed := true, recurses := true, apart := false }
def EventSchemasSaid : Prop := eventSchemasRow.holds Try.pinned (OpenSpec.ofChange eventSchemasSpec)

/-- ITS FALSE NEIGHBOUR: 'it returns false'. Refute it at one input. -/
def eventSchemasWrong : ChangeSpec := { name := "eventSchemas", fn := fun _ => fun
  | [d] => { results := [.lit (.bool false)], args := [d] }
  | _ => none }
def EventSchemasWrongFalsely : Prop := eventSchemasRow.holds Try.pinned (OpenSpec.ofChange eventSchemasWrong)

/-- 'grapevinelaw04.EventTakes': WHATEVER THE INPUT: true; the input reads as it did. -/
def eventTakesSpec : ChangeSpec := { name := "eventTakes", fn := fun _ => fun
  | [d1, d2] => { results := [.lit (.bool true)], args := [d1, d2] }
  | _ => none }
def eventTakesRow : OpenClaim := { program := "ythcfjkbegadpjaa", sum := "ba9d92805324cdee74a72600c22053a7b429f05bc5fb8efd3ea0a6e78d1b5109", func := "grapevine/grapevinelaw04.EventTakes", spec := "eventTakes", unfollowed := true, recurses := true, apart := false }
def EventTakesSaid : Prop := eventTakesRow.holds Try.pinned (OpenSpec.ofChange eventTakesSpec)

/-- ITS FALSE NEIGHBOUR: 'it returns false'. Refute it at one input. -/
def eventTakesWrong : ChangeSpec := { name := "eventTakes", fn := fun _ => fun
  | [d1, d2] => { results := [.lit (.bool false)], args := [d1, d2] }
  | _ => none }
def EventTakesWrongFalsely : Prop := eventTakesRow.holds Try.pinned (OpenSpec.ofChange eventTakesWrong)

/-- 'grapevinelaw04.EventOnce': WHATEVER THE INPUT: true; the input reads as it did. -/
def eventOnceSpec : ChangeSpec := { name := "eventOnce", fn := fun _ => fun
  | [d1, d2] => { results := [.lit (.bool true)], args := [d1, d2] }
  | _ => none }
def eventOnceRow : OpenClaim := { program := "ythcfjkbegadpjaa", sum := "ba9d92805324cdee74a72600c22053a7b429f05bc5fb8efd3ea0a6e78d1b5109", func := "grapevine/grapevinelaw04.EventOnce", spec := "eventOnce", unfollowed := true, recurses := true, apart := false }
def EventOnceSaid : Prop := eventOnceRow.holds Try.pinned (OpenSpec.ofChange eventOnceSpec)

/-- ITS FALSE NEIGHBOUR: 'it returns false'. Refute it at one input. -/
def eventOnceWrong : ChangeSpec := { name := "eventOnce", fn := fun _ => fun
  | [d1, d2] => { results := [.lit (.bool false)], args := [d1, d2] }
  | _ => none }
def EventOnceWrongFalsely : Prop := eventOnceRow.holds Try.pinned (OpenSpec.ofChange eventOnceWrong)

/- THE SECOND FORM. 'bulk': how many values and letters a reading holds, each counted each time it is reached (what is shared counts as often as it is met; a slice's spare places count too). A statement '..UptoSaid' is the law's where the arguments, and the package variables that the reading takes, are together of bulk at most 1048576: NARROWER than '..Said'. Prove '..Said' where nothing that the law and all that it calls make is longer than what came in: it says more and counts as full. Else prove '..UptoSaid'. A law counts once. -/
mutual
def uptoBulk {H : Type} : DataW H → Nat
  | .lit (.string bytes) => bytes.length + 1
  | .lit _ => 1
  | .nil => 1
  | .ptr d => uptoBulk d + 1
  | .slice elems spare => uptoBulkAll elems + uptoBulkAll spare + 1
  | .agg parts => uptoBulkAll parts + 1
  | .iface _ d => uptoBulk d + 1
  | .map entries => uptoBulkEntries entries + 1
  | .held _ => 1
def uptoBulkAll {H : Type} : List (DataW H) → Nat
  | [] => 0
  | d :: r => uptoBulk d + uptoBulkAll r
def uptoBulkEntries {H : Type} : List (Lit × DataW H) → Nat
  | [] => 0
  | x :: r => uptoBulkEntry x + uptoBulkEntries r
def uptoBulkEntry {H : Type} : Lit × DataW H → Nat
  | (.string bytes, d) => bytes.length + uptoBulk d + 1
  | (_, d) => uptoBulk d + 1
 end
def uptoSmall : (H : Type) → List (DataW H) → Bool := fun _ ds => decide (uptoBulkAll ds ≤ 1048576)
def OpenSpec.upto (s : _root_.Go.ChangeSpec) : _root_.Go.OpenSpec := { _root_.Go.OpenSpec.ofChange s with cond := some uptoSmall }

/-- 'grapevinelaw04.EventNames', WHERE WHAT IT READS IS OF BULK AT MOST 1048576: true; the input reads as it did. -/
def eventNamesUptoRow : OpenClaim := { program := "ythcfjkbegadpjaa", sum := "ba9d92805324cdee74a72600c22053a7b429f05bc5fb8efd3ea0a6e78d1b5109", func := "grapevine/grapevinelaw04.EventNames", spec := "eventNames", unfollowed := true, recurses := true, apart := false, narrowed := true }
def EventNamesUptoSaid : Prop := eventNamesUptoRow.holds Try.pinned (OpenSpec.upto eventNamesSpec)

/-- 'grapevinelaw04.EventSchemas', WHERE WHAT IT READS IS OF BULK AT MOST 1048576: true; the input reads as it did. -/
def eventSchemasUptoRow : OpenClaim := { program := "ythcfjkbegadpjaa", sum := "ba9d92805324cdee74a72600c22053a7b429f05bc5fb8efd3ea0a6e78d1b5109", func := "grapevine/grapevinelaw04.EventSchemas", spec := "eventSchemas", unfollowed := true, recurses := true, apart := false, narrowed := true }
def EventSchemasUptoSaid : Prop := eventSchemasUptoRow.holds Try.pinned (OpenSpec.upto eventSchemasSpec)

/-- 'grapevinelaw04.EventTakes', WHERE WHAT IT READS IS OF BULK AT MOST 1048576: true; the input reads as it did. -/
def eventTakesUptoRow : OpenClaim := { program := "ythcfjkbegadpjaa", sum := "ba9d92805324cdee74a72600c22053a7b429f05bc5fb8efd3ea0a6e78d1b5109", func := "grapevine/grapevinelaw04.EventTakes", spec := "eventTakes", unfollowed := true, recurses := true, apart := false, narrowed := true }
def EventTakesUptoSaid : Prop := eventTakesUptoRow.holds Try.pinned (OpenSpec.upto eventTakesSpec)

/-- 'grapevinelaw04.EventOnce', WHERE WHAT IT READS IS OF BULK AT MOST 1048576: true; the input reads as it did. -/
def eventOnceUptoRow : OpenClaim := { program := "ythcfjkbegadpjaa", sum := "ba9d92805324cdee74a72600c22053a7b429f05bc5fb8efd3ea0a6e78d1b5109", func := "grapevine/grapevinelaw04.EventOnce", spec := "eventOnce", unfollowed := true, recurses := true, apart := false, narrowed := true }
def EventOnceUptoSaid : Prop := eventOnceUptoRow.holds Try.pinned (OpenSpec.upto eventOnceSpec)

end Rows
end Go.Proofs.Ythcfjkbegadpjaa
