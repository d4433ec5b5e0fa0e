/-
  No cell of these rows narrows 'for every input' (looked for: loops, veiled, ifaces, maps, wideKeys, modest, calm, conditions, laid).
  DERIVED. THE GIVEN ROWS OF THIS SEAT. 4 by the template 'for every input the law returns true; each argument reads behind the call as it read before'; 0 by the template 'total and deterministic' (their statements: YtmgljgmieomngaaTotals.lean).
  GIVEN WITH THE SEED: the statements are not yours to turn. If you find one false, say at which input.
  Laid BY PROGRAM, IN A SANDBOX (cutbox-rows.mjs): the forced cells as the released guide's own fill.sh prints them over the translation 0d411d4d0dc788b2… (all of the seat's roots in one cut). By AI agents, Wed Nov 11 2026. No macro, syntax, notation, axiom, sorry.
-/
import Derived.Test.YtmgljgmieomngaaChecked
import GoSem.Claim
import GoSem.ClaimJoined
import GoSem.ClaimMapViews
import Derived.JoinedTies
import Derived.KernelRfl
namespace Go.Proofs.Ytmgljgmieomngaa
/- THE CELL 'sum', in the pinned program and in every row, IS THE sha256 OF THE DUMP (.gsa) THAT YtmgljgmieomngaaProg.lean LOADS. Nothing in Lean hashes anything: it is a label: what it is worth is what the hold of that sum in a sandbox is worth. -/
noncomputable def Try.pinned : Pinned := { name := "ytmgljgmieomngaa", sum := "0d411d4d0dc788b21cd89af0b174d13498b8fe4804729b479d39841fbce581ed", checked := Try.checked }
namespace Rows
def none {H : Type} : Left H := { results := [], args := [] }

/-- 'grapevinelaw05.PredBlanks': WHATEVER THE INPUT: true; the input reads as it did. -/
def predBlanksSpec : ChangeSpec := { name := "predBlanks", fn := fun _ => fun
  | [d1, d2] => { results := [.lit (.bool true)], args := [d1, d2] }
  | _ => none }
def predBlanksRow : OpenClaim := { program := "ytmgljgmieomngaa", sum := "0d411d4d0dc788b21cd89af0b174d13498b8fe4804729b479d39841fbce581ed", func := "grapevine/grapevinelaw05.PredBlanks", spec := "predBlanks", unfollowed := true, recurses := true, apart := false }
def PredBlanksSaid : Prop := predBlanksRow.holds Try.pinned (OpenSpec.ofChange predBlanksSpec)

/-- ITS FALSE NEIGHBOUR: 'it returns false'. Refute it at one input. -/
def predBlanksWrong : ChangeSpec := { name := "predBlanks", fn := fun _ => fun
  | [d1, d2] => { results := [.lit (.bool false)], args := [d1, d2] }
  | _ => none }
def PredBlanksWrongFalsely : Prop := predBlanksRow.holds Try.pinned (OpenSpec.ofChange predBlanksWrong)

/-- 'grapevinelaw05.PredAgain': WHATEVER THE INPUT: true; the input reads as it did. -/
def predAgainSpec : ChangeSpec := { name := "predAgain", fn := fun _ => fun
  | [d] => { results := [.lit (.bool true)], args := [d] }
  | _ => none }
def predAgainRow : OpenClaim := { program := "ytmgljgmieomngaa", sum := "0d411d4d0dc788b21cd89af0b174d13498b8fe4804729b479d39841fbce581ed", func := "grapevine/grapevinelaw05.PredAgain", spec := "predAgain", unfollowed := true, recurses := true, apart := false }
def PredAgainSaid : Prop := predAgainRow.holds Try.pinned (OpenSpec.ofChange predAgainSpec)

/-- ITS FALSE NEIGHBOUR: 'it returns false'. Refute it at one input. -/
def predAgainWrong : ChangeSpec := { name := "predAgain", fn := fun _ => fun
  | [d] => { results := [.lit (.bool false)], args := [d] }
  | _ => none }
def PredAgainWrongFalsely : Prop := predAgainRow.holds Try.pinned (OpenSpec.ofChange predAgainWrong)

/-- 'grapevinelaw05.PredTakes': WHATEVER THE INPUT: true; the input reads as it did. -/
def predTakesSpec : ChangeSpec := { name := "predTakes", fn := fun _ => fun
  | [d1, d2] => { results := [.lit (.bool true)], args := [d1, d2] }
  | _ => none }
def predTakesRow : OpenClaim := { program := "ytmgljgmieomngaa", sum := "0d411d4d0dc788b21cd89af0b174d13498b8fe4804729b479d39841fbce581ed", func := "grapevine/grapevinelaw05.PredTakes", spec := "predTakes", unfollowed := true, recurses := true, apart := false }
def PredTakesSaid : Prop := predTakesRow.holds Try.pinned (OpenSpec.ofChange predTakesSpec)

/-- ITS FALSE NEIGHBOUR: 'it returns false'. Refute it at one input. -/
def predTakesWrong : ChangeSpec := { name := "predTakes", fn := fun _ => fun
  | [d1, d2] => { results := [.lit (.bool false)], args := [d1, d2] }
  | _ => none }
def PredTakesWrongFalsely : Prop := predTakesRow.holds Try.pinned (OpenSpec.ofChange predTakesWrong)

/-- 'grapevinelaw05.PredOnce': WHATEVER THE INPUT: true; the input reads as it did. -/
def predOnceSpec : ChangeSpec := { name := "predOnce", fn := fun _ => fun
  | [d1, d2] => { results := [.lit (.bool true)], args := [d1, d2] }
  | _ => none }
def predOnceRow : OpenClaim := { program := "ytmgljgmieomngaa", sum := "0d411d4d0dc788b21cd89af0b174d13498b8fe4804729b479d39841fbce581ed", func := "grapevine/grapevinelaw05.PredOnce", spec := "predOnce", unfollowed := true, recurses := true, apart := false }
def PredOnceSaid : Prop := predOnceRow.holds Try.pinned (OpenSpec.ofChange predOnceSpec)

/-- ITS FALSE NEIGHBOUR: 'it returns false'. Refute it at one input. -/
def predOnceWrong : ChangeSpec := { name := "predOnce", fn := fun _ => fun
  | [d1, d2] => { results := [.lit (.bool false)], args := [d1, d2] }
  | _ => none }
def PredOnceWrongFalsely : Prop := predOnceRow.holds Try.pinned (OpenSpec.ofChange predOnceWrong)

/- THE SECOND FORM. 'bulk': how many values and letters a reading holds, each counted each time it is reached (what is shared counts as often as it is met; a slice's spare places count too). A statement '..UptoSaid' is the law's where the arguments, and the package variables that the reading takes, are together of bulk at most 1048576: NARROWER than '..Said'. Prove '..Said' where nothing that the law and all that it calls make is longer than what came in: it says more and counts as full. Else prove '..UptoSaid'. A law counts once. -/
mutual
def uptoBulk {H : Type} : DataW H → Nat
  | .lit (.string bytes) => bytes.length + 1
  | .lit _ => 1
  | .nil => 1
  | .ptr d => uptoBulk d + 1
  | .slice elems spare => uptoBulkAll elems + uptoBulkAll spare + 1
  | .agg parts => uptoBulkAll parts + 1
  | .iface _ d => uptoBulk d + 1
  | .map entries => uptoBulkEntries entries + 1
  | .held _ => 1
def uptoBulkAll {H : Type} : List (DataW H) → Nat
  | [] => 0
  | d :: r => uptoBulk d + uptoBulkAll r
def uptoBulkEntries {H : Type} : List (Lit × DataW H) → Nat
  | [] => 0
  | x :: r => uptoBulkEntry x + uptoBulkEntries r
def uptoBulkEntry {H : Type} : Lit × DataW H → Nat
  | (.string bytes, d) => bytes.length + uptoBulk d + 1
  | (_, d) => uptoBulk d + 1
 end
def uptoSmall : (H : Type) → List (DataW H) → Bool := fun _ ds => decide (uptoBulkAll ds ≤ 1048576)
def OpenSpec.upto (s : _root_.Go.ChangeSpec) : _root_.Go.OpenSpec := { _root_.Go.OpenSpec.ofChange s with cond := some uptoSmall }

/-- 'grapevinelaw05.PredBlanks', WHERE WHAT IT READS IS OF BULK AT MOST 1048576: true; the input reads as it did. -/
def predBlanksUptoRow : OpenClaim := { program := "ytmgljgmieomngaa", sum := "0d411d4d0dc788b21cd89af0b174d13498b8fe4804729b479d39841fbce581ed", func := "grapevine/grapevinelaw05.PredBlanks", spec := "predBlanks", unfollowed := true, recurses := true, apart := false, narrowed := true }
def PredBlanksUptoSaid : Prop := predBlanksUptoRow.holds Try.pinned (OpenSpec.upto predBlanksSpec)

/-- 'grapevinelaw05.PredAgain', WHERE WHAT IT READS IS OF BULK AT MOST 1048576: true; the input reads as it did. -/
def predAgainUptoRow : OpenClaim := { program := "ytmgljgmieomngaa", sum := "0d411d4d0dc788b21cd89af0b174d13498b8fe4804729b479d39841fbce581ed", func := "grapevine/grapevinelaw05.PredAgain", spec := "predAgain", unfollowed := true, recurses := true, apart := false, narrowed := true }
def PredAgainUptoSaid : Prop := predAgainUptoRow.holds Try.pinned (OpenSpec.upto predAgainSpec)

/-- 'grapevinelaw05.PredTakes', WHERE WHAT IT READS IS OF BULK AT MOST 1048576: true; the input reads as it did. -/
def predTakesUptoRow : OpenClaim := { program := "ytmgljgmieomngaa", sum := "0d411d4d0dc788b21cd89af0b174d13498b8fe4804729b479d39841fbce581ed", func := "grapevine/grapevinelaw05.PredTakes", spec := "predTakes", unfollowed := true, recurses := true, apart := false, narrowed := true }
def PredTakesUptoSaid : Prop := predTakesUptoRow.holds Try.pinned (OpenSpec.upto predTakesSpec)

/-- 'grapevinelaw05.PredOnce', WHERE WHAT IT READS IS OF BULK AT MOST 1048576: true; the input reads as it did. -/
def predOnceUptoRow : OpenClaim := { program := "ytmgljgmieomngaa", sum := "0d411d4d0dc788b21cd89af0b174d13498b8fe4804729b479d39841fbce581ed", func := "grapevine/grapevinelaw05.PredOnce", spec := "predOnce", unfollowed := true, recurses := true, apart := false, narrowed := true }
def PredOnceUptoSaid : Prop := predOnceUptoRow.holds Try.pinned (OpenSpec.upto predOnceSpec)

end Rows
end Go.Proofs.Ytmgljgmieomngaa
