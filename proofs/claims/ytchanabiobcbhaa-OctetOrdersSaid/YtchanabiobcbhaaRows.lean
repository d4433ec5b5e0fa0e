/-
  No cell of these rows narrows 'for every input' (looked for: loops, veiled, ifaces, maps, wideKeys, modest, calm, conditions, laid).
  DERIVED. THE GIVEN ROWS OF THIS SEAT. 14 by the template 'for every input the law returns true; each argument reads behind the call as it read before'; 0 by the template 'total and deterministic' (their statements: YtchanabiobcbhaaTotals.lean).
  GIVEN WITH THE SEED: the statements are not yours to turn. If you find one false, say at which input.
  Laid BY PROGRAM, IN A SANDBOX (cutbox-rows.mjs): the forced cells as the released guide's own fill.sh prints them over the translation 6932906e2f2d513f… (all of the seat's roots in one cut). By AI agents, Wed Nov 11 2026. No macro, syntax, notation, axiom, sorry.
-/
import Derived.Test.YtchanabiobcbhaaChecked
import GoSem.Claim
import GoSem.ClaimJoined
import GoSem.ClaimMapViews
import Derived.JoinedTies
import Derived.KernelRfl
namespace Go.Proofs.Ytchanabiobcbhaa
/- THE CELL 'sum', in the pinned program and in every row, IS THE sha256 OF THE DUMP (.gsa) THAT YtchanabiobcbhaaProg.lean LOADS. Nothing in Lean hashes anything: it is a label: what it is worth is what the hold of that sum in a sandbox is worth. -/
noncomputable def Try.pinned : Pinned := { name := "ytchanabiobcbhaa", sum := "6932906e2f2d513f5377b4370dc1027e5b63183e5b3d58aadc1ee9a4fe697056", checked := Try.checked }
namespace Rows
def none {H : Type} : Left H := { results := [], args := [] }

/-- 'grapevinelaw02.OctetUints': WHATEVER THE INPUT: true; the input reads as it did. -/
def octetUintsSpec : ChangeSpec := { name := "octetUints", fn := fun _ => fun
  | [d] => { results := [.lit (.bool true)], args := [d] }
  | _ => none }
def octetUintsRow : OpenClaim := { program := "ytchanabiobcbhaa", sum := "6932906e2f2d513f5377b4370dc1027e5b63183e5b3d58aadc1ee9a4fe697056", func := "grapevine/grapevinelaw02.OctetUints", spec := "octetUints", apart := false }
def OctetUintsSaid : Prop := octetUintsRow.holds Try.pinned (OpenSpec.ofChange octetUintsSpec)

/-- ITS FALSE NEIGHBOUR: 'it returns false'. Refute it at one input. -/
def octetUintsWrong : ChangeSpec := { name := "octetUints", fn := fun _ => fun
  | [d] => { results := [.lit (.bool false)], args := [d] }
  | _ => none }
def OctetUintsWrongFalsely : Prop := octetUintsRow.holds Try.pinned (OpenSpec.ofChange octetUintsWrong)

/-- 'grapevinelaw02.OctetOrders': WHATEVER THE INPUT: true; the input reads as it did. -/
def octetOrdersSpec : ChangeSpec := { name := "octetOrders", fn := fun _ => fun
  | [d1, d2, d3] => { results := [.lit (.bool true)], args := [d1, d2, d3] }
  | _ => none }
def octetOrdersRow : OpenClaim := { program := "ytchanabiobcbhaa", sum := "6932906e2f2d513f5377b4370dc1027e5b63183e5b3d58aadc1ee9a4fe697056", func := "grapevine/grapevinelaw02.OctetOrders", spec := "octetOrders", apart := false }
def OctetOrdersSaid : Prop := octetOrdersRow.holds Try.pinned (OpenSpec.ofChange octetOrdersSpec)

/-- ITS FALSE NEIGHBOUR: 'it returns false'. Refute it at one input. -/
def octetOrdersWrong : ChangeSpec := { name := "octetOrders", fn := fun _ => fun
  | [d1, d2, d3] => { results := [.lit (.bool false)], args := [d1, d2, d3] }
  | _ => none }
def OctetOrdersWrongFalsely : Prop := octetOrdersRow.holds Try.pinned (OpenSpec.ofChange octetOrdersWrong)

/-- 'grapevinelaw02.OctetKeys': WHATEVER THE INPUT: true; the input reads as it did. -/
def octetKeysSpec : ChangeSpec := { name := "octetKeys", fn := fun _ => fun
  | [d1, d2, d3] => { results := [.lit (.bool true)], args := [d1, d2, d3] }
  | _ => none }
def octetKeysRow : OpenClaim := { program := "ytchanabiobcbhaa", sum := "6932906e2f2d513f5377b4370dc1027e5b63183e5b3d58aadc1ee9a4fe697056", func := "grapevine/grapevinelaw02.OctetKeys", spec := "octetKeys", apart := false }
def OctetKeysSaid : Prop := octetKeysRow.holds Try.pinned (OpenSpec.ofChange octetKeysSpec)

/-- ITS FALSE NEIGHBOUR: 'it returns false'. Refute it at one input. -/
def octetKeysWrong : ChangeSpec := { name := "octetKeys", fn := fun _ => fun
  | [d1, d2, d3] => { results := [.lit (.bool false)], args := [d1, d2, d3] }
  | _ => none }
def OctetKeysWrongFalsely : Prop := octetKeysRow.holds Try.pinned (OpenSpec.ofChange octetKeysWrong)

/-- 'grapevinelaw02.OctetKeyBack': WHATEVER THE INPUT: true; the input reads as it did. -/
def octetKeyBackSpec : ChangeSpec := { name := "octetKeyBack", fn := fun _ => fun
  | [d1, d2] => { results := [.lit (.bool true)], args := [d1, d2] }
  | _ => none }
def octetKeyBackRow : OpenClaim := { program := "ytchanabiobcbhaa", sum := "6932906e2f2d513f5377b4370dc1027e5b63183e5b3d58aadc1ee9a4fe697056", func := "grapevine/grapevinelaw02.OctetKeyBack", spec := "octetKeyBack", apart := false }
def OctetKeyBackSaid : Prop := octetKeyBackRow.holds Try.pinned (OpenSpec.ofChange octetKeyBackSpec)

/-- ITS FALSE NEIGHBOUR: 'it returns false'. Refute it at one input. -/
def octetKeyBackWrong : ChangeSpec := { name := "octetKeyBack", fn := fun _ => fun
  | [d1, d2] => { results := [.lit (.bool false)], args := [d1, d2] }
  | _ => none }
def OctetKeyBackWrongFalsely : Prop := octetKeyBackRow.holds Try.pinned (OpenSpec.ofChange octetKeyBackWrong)

/-- 'grapevinelaw02.OctetTakesUint': WHATEVER THE INPUT: true; the input reads as it did. -/
def octetTakesUintSpec : ChangeSpec := { name := "octetTakesUint", fn := fun _ => fun
  | [d1, d2] => { results := [.lit (.bool true)], args := [d1, d2] }
  | _ => none }
def octetTakesUintRow : OpenClaim := { program := "ytchanabiobcbhaa", sum := "6932906e2f2d513f5377b4370dc1027e5b63183e5b3d58aadc1ee9a4fe697056", func := "grapevine/grapevinelaw02.OctetTakesUint", spec := "octetTakesUint", apart := false }
def OctetTakesUintSaid : Prop := octetTakesUintRow.holds Try.pinned (OpenSpec.ofChange octetTakesUintSpec)

/-- ITS FALSE NEIGHBOUR: 'it returns false'. Refute it at one input. -/
def octetTakesUintWrong : ChangeSpec := { name := "octetTakesUint", fn := fun _ => fun
  | [d1, d2] => { results := [.lit (.bool false)], args := [d1, d2] }
  | _ => none }
def OctetTakesUintWrongFalsely : Prop := octetTakesUintRow.holds Try.pinned (OpenSpec.ofChange octetTakesUintWrong)

/-- 'grapevinelaw02.OctetUintBack': WHATEVER THE INPUT: true; the input reads as it did. -/
def octetUintBackSpec : ChangeSpec := { name := "octetUintBack", fn := fun _ => fun
  | [d1, d2] => { results := [.lit (.bool true)], args := [d1, d2] }
  | _ => none }
def octetUintBackRow : OpenClaim := { program := "ytchanabiobcbhaa", sum := "6932906e2f2d513f5377b4370dc1027e5b63183e5b3d58aadc1ee9a4fe697056", func := "grapevine/grapevinelaw02.OctetUintBack", spec := "octetUintBack", apart := false }
def OctetUintBackSaid : Prop := octetUintBackRow.holds Try.pinned (OpenSpec.ofChange octetUintBackSpec)

/-- ITS FALSE NEIGHBOUR: 'it returns false'. Refute it at one input. -/
def octetUintBackWrong : ChangeSpec := { name := "octetUintBack", fn := fun _ => fun
  | [d1, d2] => { results := [.lit (.bool false)], args := [d1, d2] }
  | _ => none }
def OctetUintBackWrongFalsely : Prop := octetUintBackRow.holds Try.pinned (OpenSpec.ofChange octetUintBackWrong)

/-- 'grapevinelaw02.OctetOnce': WHATEVER THE INPUT: true; the input reads as it did. -/
def octetOnceSpec : ChangeSpec := { name := "octetOnce", fn := fun _ => fun
  | [d1, d2] => { results := [.lit (.bool true)], args := [d1, d2] }
  | _ => none }
def octetOnceRow : OpenClaim := { program := "ytchanabiobcbhaa", sum := "6932906e2f2d513f5377b4370dc1027e5b63183e5b3d58aadc1ee9a4fe697056", func := "grapevine/grapevinelaw02.OctetOnce", spec := "octetOnce", apart := false }
def OctetOnceSaid : Prop := octetOnceRow.holds Try.pinned (OpenSpec.ofChange octetOnceSpec)

/-- ITS FALSE NEIGHBOUR: 'it returns false'. Refute it at one input. -/
def octetOnceWrong : ChangeSpec := { name := "octetOnce", fn := fun _ => fun
  | [d1, d2] => { results := [.lit (.bool false)], args := [d1, d2] }
  | _ => none }
def OctetOnceWrongFalsely : Prop := octetOnceRow.holds Try.pinned (OpenSpec.ofChange octetOnceWrong)

/-- 'grapevinelaw02.OctetInts': WHATEVER THE INPUT: true; the input reads as it did. -/
def octetIntsSpec : ChangeSpec := { name := "octetInts", fn := fun _ => fun
  | [d1, d2, d3] => { results := [.lit (.bool true)], args := [d1, d2, d3] }
  | _ => none }
def octetIntsRow : OpenClaim := { program := "ytchanabiobcbhaa", sum := "6932906e2f2d513f5377b4370dc1027e5b63183e5b3d58aadc1ee9a4fe697056", func := "grapevine/grapevinelaw02.OctetInts", spec := "octetInts", apart := false }
def OctetIntsSaid : Prop := octetIntsRow.holds Try.pinned (OpenSpec.ofChange octetIntsSpec)

/-- ITS FALSE NEIGHBOUR: 'it returns false'. Refute it at one input. -/
def octetIntsWrong : ChangeSpec := { name := "octetInts", fn := fun _ => fun
  | [d1, d2, d3] => { results := [.lit (.bool false)], args := [d1, d2, d3] }
  | _ => none }
def OctetIntsWrongFalsely : Prop := octetIntsRow.holds Try.pinned (OpenSpec.ofChange octetIntsWrong)

/-- 'grapevinelaw02.OctetIntBack': WHATEVER THE INPUT: true; the input reads as it did. -/
def octetIntBackSpec : ChangeSpec := { name := "octetIntBack", fn := fun _ => fun
  | [d1, d2] => { results := [.lit (.bool true)], args := [d1, d2] }
  | _ => none }
def octetIntBackRow : OpenClaim := { program := "ytchanabiobcbhaa", sum := "6932906e2f2d513f5377b4370dc1027e5b63183e5b3d58aadc1ee9a4fe697056", func := "grapevine/grapevinelaw02.OctetIntBack", spec := "octetIntBack", apart := false }
def OctetIntBackSaid : Prop := octetIntBackRow.holds Try.pinned (OpenSpec.ofChange octetIntBackSpec)

/-- ITS FALSE NEIGHBOUR: 'it returns false'. Refute it at one input. -/
def octetIntBackWrong : ChangeSpec := { name := "octetIntBack", fn := fun _ => fun
  | [d1, d2] => { results := [.lit (.bool false)], args := [d1, d2] }
  | _ => none }
def OctetIntBackWrongFalsely : Prop := octetIntBackRow.holds Try.pinned (OpenSpec.ofChange octetIntBackWrong)

/-- 'grapevinelaw02.OctetTexts': WHATEVER THE INPUT: true; the input reads as it did. -/
def octetTextsSpec : ChangeSpec := { name := "octetTexts", fn := fun _ => fun
  | [d1, d2, d3] => { results := [.lit (.bool true)], args := [d1, d2, d3] }
  | _ => none }
def octetTextsRow : OpenClaim := { program := "ytchanabiobcbhaa", sum := "6932906e2f2d513f5377b4370dc1027e5b63183e5b3d58aadc1ee9a4fe697056", func := "grapevine/grapevinelaw02.OctetTexts", spec := "octetTexts", apart := false }
def OctetTextsSaid : Prop := octetTextsRow.holds Try.pinned (OpenSpec.ofChange octetTextsSpec)

/-- ITS FALSE NEIGHBOUR: 'it returns false'. Refute it at one input. -/
def octetTextsWrong : ChangeSpec := { name := "octetTexts", fn := fun _ => fun
  | [d1, d2, d3] => { results := [.lit (.bool false)], args := [d1, d2, d3] }
  | _ => none }
def OctetTextsWrongFalsely : Prop := octetTextsRow.holds Try.pinned (OpenSpec.ofChange octetTextsWrong)

/-- 'grapevinelaw02.OctetTextBack': WHATEVER THE INPUT: true; the input reads as it did. -/
def octetTextBackSpec : ChangeSpec := { name := "octetTextBack", fn := fun _ => fun
  | [d1, d2] => { results := [.lit (.bool true)], args := [d1, d2] }
  | _ => none }
def octetTextBackRow : OpenClaim := { program := "ytchanabiobcbhaa", sum := "6932906e2f2d513f5377b4370dc1027e5b63183e5b3d58aadc1ee9a4fe697056", func := "grapevine/grapevinelaw02.OctetTextBack", spec := "octetTextBack", apart := false }
def OctetTextBackSaid : Prop := octetTextBackRow.holds Try.pinned (OpenSpec.ofChange octetTextBackSpec)

/-- ITS FALSE NEIGHBOUR: 'it returns false'. Refute it at one input. -/
def octetTextBackWrong : ChangeSpec := { name := "octetTextBack", fn := fun _ => fun
  | [d1, d2] => { results := [.lit (.bool false)], args := [d1, d2] }
  | _ => none }
def OctetTextBackWrongFalsely : Prop := octetTextBackRow.holds Try.pinned (OpenSpec.ofChange octetTextBackWrong)

/-- 'grapevinelaw02.OctetJoins': WHATEVER THE INPUT: true; the input reads as it did. -/
def octetJoinsSpec : ChangeSpec := { name := "octetJoins", fn := fun _ => fun
  | [d1, d2, d3] => { results := [.lit (.bool true)], args := [d1, d2, d3] }
  | _ => none }
def octetJoinsRow : OpenClaim := { program := "ytchanabiobcbhaa", sum := "6932906e2f2d513f5377b4370dc1027e5b63183e5b3d58aadc1ee9a4fe697056", func := "grapevine/grapevinelaw02.OctetJoins", spec := "octetJoins", apart := false }
def OctetJoinsSaid : Prop := octetJoinsRow.holds Try.pinned (OpenSpec.ofChange octetJoinsSpec)

/-- ITS FALSE NEIGHBOUR: 'it returns false'. Refute it at one input. -/
def octetJoinsWrong : ChangeSpec := { name := "octetJoins", fn := fun _ => fun
  | [d1, d2, d3] => { results := [.lit (.bool false)], args := [d1, d2, d3] }
  | _ => none }
def OctetJoinsWrongFalsely : Prop := octetJoinsRow.holds Try.pinned (OpenSpec.ofChange octetJoinsWrong)

/-- 'grapevinelaw02.OctetJoinBack': WHATEVER THE INPUT: true; the input reads as it did. -/
def octetJoinBackSpec : ChangeSpec := { name := "octetJoinBack", fn := fun _ => fun
  | [d1, d2] => { results := [.lit (.bool true)], args := [d1, d2] }
  | _ => none }
def octetJoinBackRow : OpenClaim := { program := "ytchanabiobcbhaa", sum := "6932906e2f2d513f5377b4370dc1027e5b63183e5b3d58aadc1ee9a4fe697056", func := "grapevine/grapevinelaw02.OctetJoinBack", spec := "octetJoinBack", apart := false }
def OctetJoinBackSaid : Prop := octetJoinBackRow.holds Try.pinned (OpenSpec.ofChange octetJoinBackSpec)

/-- ITS FALSE NEIGHBOUR: 'it returns false'. Refute it at one input. -/
def octetJoinBackWrong : ChangeSpec := { name := "octetJoinBack", fn := fun _ => fun
  | [d1, d2] => { results := [.lit (.bool false)], args := [d1, d2] }
  | _ => none }
def OctetJoinBackWrongFalsely : Prop := octetJoinBackRow.holds Try.pinned (OpenSpec.ofChange octetJoinBackWrong)

/-- 'grapevinelaw02.OctetCuts': WHATEVER THE INPUT: true; the input reads as it did. -/
def octetCutsSpec : ChangeSpec := { name := "octetCuts", fn := fun _ => fun
  | [d1, d2, d3] => { results := [.lit (.bool true)], args := [d1, d2, d3] }
  | _ => none }
def octetCutsRow : OpenClaim := { program := "ytchanabiobcbhaa", sum := "6932906e2f2d513f5377b4370dc1027e5b63183e5b3d58aadc1ee9a4fe697056", func := "grapevine/grapevinelaw02.OctetCuts", spec := "octetCuts", apart := false }
def OctetCutsSaid : Prop := octetCutsRow.holds Try.pinned (OpenSpec.ofChange octetCutsSpec)

/-- ITS FALSE NEIGHBOUR: 'it returns false'. Refute it at one input. -/
def octetCutsWrong : ChangeSpec := { name := "octetCuts", fn := fun _ => fun
  | [d1, d2, d3] => { results := [.lit (.bool false)], args := [d1, d2, d3] }
  | _ => none }
def OctetCutsWrongFalsely : Prop := octetCutsRow.holds Try.pinned (OpenSpec.ofChange octetCutsWrong)

/- THE SECOND FORM. 'bulk': how many values and letters a reading holds, each counted each time it is reached (what is shared counts as often as it is met; a slice's spare places count too). A statement '..UptoSaid' is the law's where the arguments, and the package variables that the reading takes, are together of bulk at most 1048576: NARROWER than '..Said'. Prove '..Said' where nothing that the law and all that it calls make is longer than what came in: it says more and counts as full. Else prove '..UptoSaid'. A law counts once. -/
mutual
def uptoBulk {H : Type} : DataW H → Nat
  | .lit (.string bytes) => bytes.length + 1
  | .lit _ => 1
  | .nil => 1
  | .ptr d => uptoBulk d + 1
  | .slice elems spare => uptoBulkAll elems + uptoBulkAll spare + 1
  | .agg parts => uptoBulkAll parts + 1
  | .iface _ d => uptoBulk d + 1
  | .map entries => uptoBulkEntries entries + 1
  | .held _ => 1
def uptoBulkAll {H : Type} : List (DataW H) → Nat
  | [] => 0
  | d :: r => uptoBulk d + uptoBulkAll r
def uptoBulkEntries {H : Type} : List (Lit × DataW H) → Nat
  | [] => 0
  | x :: r => uptoBulkEntry x + uptoBulkEntries r
def uptoBulkEntry {H : Type} : Lit × DataW H → Nat
  | (.string bytes, d) => bytes.length + uptoBulk d + 1
  | (_, d) => uptoBulk d + 1
 end
def uptoSmall : (H : Type) → List (DataW H) → Bool := fun _ ds => decide (uptoBulkAll ds ≤ 1048576)
def OpenSpec.upto (s : _root_.Go.ChangeSpec) : _root_.Go.OpenSpec := { _root_.Go.OpenSpec.ofChange s with cond := some uptoSmall }

/-- 'grapevinelaw02.OctetUints', WHERE WHAT IT READS IS OF BULK AT MOST 1048576: true; the input reads as it did. -/
def octetUintsUptoRow : OpenClaim := { program := "ytchanabiobcbhaa", sum := "6932906e2f2d513f5377b4370dc1027e5b63183e5b3d58aadc1ee9a4fe697056", func := "grapevine/grapevinelaw02.OctetUints", spec := "octetUints", apart := false, narrowed := true }
def OctetUintsUptoSaid : Prop := octetUintsUptoRow.holds Try.pinned (OpenSpec.upto octetUintsSpec)

/-- 'grapevinelaw02.OctetOrders', WHERE WHAT IT READS IS OF BULK AT MOST 1048576: true; the input reads as it did. -/
def octetOrdersUptoRow : OpenClaim := { program := "ytchanabiobcbhaa", sum := "6932906e2f2d513f5377b4370dc1027e5b63183e5b3d58aadc1ee9a4fe697056", func := "grapevine/grapevinelaw02.OctetOrders", spec := "octetOrders", apart := false, narrowed := true }
def OctetOrdersUptoSaid : Prop := octetOrdersUptoRow.holds Try.pinned (OpenSpec.upto octetOrdersSpec)

/-- 'grapevinelaw02.OctetKeys', WHERE WHAT IT READS IS OF BULK AT MOST 1048576: true; the input reads as it did. -/
def octetKeysUptoRow : OpenClaim := { program := "ytchanabiobcbhaa", sum := "6932906e2f2d513f5377b4370dc1027e5b63183e5b3d58aadc1ee9a4fe697056", func := "grapevine/grapevinelaw02.OctetKeys", spec := "octetKeys", apart := false, narrowed := true }
def OctetKeysUptoSaid : Prop := octetKeysUptoRow.holds Try.pinned (OpenSpec.upto octetKeysSpec)

/-- 'grapevinelaw02.OctetKeyBack', WHERE WHAT IT READS IS OF BULK AT MOST 1048576: true; the input reads as it did. -/
def octetKeyBackUptoRow : OpenClaim := { program := "ytchanabiobcbhaa", sum := "6932906e2f2d513f5377b4370dc1027e5b63183e5b3d58aadc1ee9a4fe697056", func := "grapevine/grapevinelaw02.OctetKeyBack", spec := "octetKeyBack", apart := false, narrowed := true }
def OctetKeyBackUptoSaid : Prop := octetKeyBackUptoRow.holds Try.pinned (OpenSpec.upto octetKeyBackSpec)

/-- 'grapevinelaw02.OctetTakesUint', WHERE WHAT IT READS IS OF BULK AT MOST 1048576: true; the input reads as it did. -/
def octetTakesUintUptoRow : OpenClaim := { program := "ytchanabiobcbhaa", sum := "6932906e2f2d513f5377b4370dc1027e5b63183e5b3d58aadc1ee9a4fe697056", func := "grapevine/grapevinelaw02.OctetTakesUint", spec := "octetTakesUint", apart := false, narrowed := true }
def OctetTakesUintUptoSaid : Prop := octetTakesUintUptoRow.holds Try.pinned (OpenSpec.upto octetTakesUintSpec)

/-- 'grapevinelaw02.OctetUintBack', WHERE WHAT IT READS IS OF BULK AT MOST 1048576: true; the input reads as it did. -/
def octetUintBackUptoRow : OpenClaim := { program := "ytchanabiobcbhaa", sum := "6932906e2f2d513f5377b4370dc1027e5b63183e5b3d58aadc1ee9a4fe697056", func := "grapevine/grapevinelaw02.OctetUintBack", spec := "octetUintBack", apart := false, narrowed := true }
def OctetUintBackUptoSaid : Prop := octetUintBackUptoRow.holds Try.pinned (OpenSpec.upto octetUintBackSpec)

/-- 'grapevinelaw02.OctetOnce', WHERE WHAT IT READS IS OF BULK AT MOST 1048576: true; the input reads as it did. -/
def octetOnceUptoRow : OpenClaim := { program := "ytchanabiobcbhaa", sum := "6932906e2f2d513f5377b4370dc1027e5b63183e5b3d58aadc1ee9a4fe697056", func := "grapevine/grapevinelaw02.OctetOnce", spec := "octetOnce", apart := false, narrowed := true }
def OctetOnceUptoSaid : Prop := octetOnceUptoRow.holds Try.pinned (OpenSpec.upto octetOnceSpec)

/-- 'grapevinelaw02.OctetInts', WHERE WHAT IT READS IS OF BULK AT MOST 1048576: true; the input reads as it did. -/
def octetIntsUptoRow : OpenClaim := { program := "ytchanabiobcbhaa", sum := "6932906e2f2d513f5377b4370dc1027e5b63183e5b3d58aadc1ee9a4fe697056", func := "grapevine/grapevinelaw02.OctetInts", spec := "octetInts", apart := false, narrowed := true }
def OctetIntsUptoSaid : Prop := octetIntsUptoRow.holds Try.pinned (OpenSpec.upto octetIntsSpec)

/-- 'grapevinelaw02.OctetIntBack', WHERE WHAT IT READS IS OF BULK AT MOST 1048576: true; the input reads as it did. -/
def octetIntBackUptoRow : OpenClaim := { program := "ytchanabiobcbhaa", sum := "6932906e2f2d513f5377b4370dc1027e5b63183e5b3d58aadc1ee9a4fe697056", func := "grapevine/grapevinelaw02.OctetIntBack", spec := "octetIntBack", apart := false, narrowed := true }
def OctetIntBackUptoSaid : Prop := octetIntBackUptoRow.holds Try.pinned (OpenSpec.upto octetIntBackSpec)

/-- 'grapevinelaw02.OctetTexts', WHERE WHAT IT READS IS OF BULK AT MOST 1048576: true; the input reads as it did. -/
def octetTextsUptoRow : OpenClaim := { program := "ytchanabiobcbhaa", sum := "6932906e2f2d513f5377b4370dc1027e5b63183e5b3d58aadc1ee9a4fe697056", func := "grapevine/grapevinelaw02.OctetTexts", spec := "octetTexts", apart := false, narrowed := true }
def OctetTextsUptoSaid : Prop := octetTextsUptoRow.holds Try.pinned (OpenSpec.upto octetTextsSpec)

/-- 'grapevinelaw02.OctetTextBack', WHERE WHAT IT READS IS OF BULK AT MOST 1048576: true; the input reads as it did. -/
def octetTextBackUptoRow : OpenClaim := { program := "ytchanabiobcbhaa", sum := "6932906e2f2d513f5377b4370dc1027e5b63183e5b3d58aadc1ee9a4fe697056", func := "grapevine/grapevinelaw02.OctetTextBack", spec := "octetTextBack", apart := false, narrowed := true }
def OctetTextBackUptoSaid : Prop := octetTextBackUptoRow.holds Try.pinned (OpenSpec.upto octetTextBackSpec)

/-- 'grapevinelaw02.OctetJoins', WHERE WHAT IT READS IS OF BULK AT MOST 1048576: true; the input reads as it did. -/
def octetJoinsUptoRow : OpenClaim := { program := "ytchanabiobcbhaa", sum := "6932906e2f2d513f5377b4370dc1027e5b63183e5b3d58aadc1ee9a4fe697056", func := "grapevine/grapevinelaw02.OctetJoins", spec := "octetJoins", apart := false, narrowed := true }
def OctetJoinsUptoSaid : Prop := octetJoinsUptoRow.holds Try.pinned (OpenSpec.upto octetJoinsSpec)

/-- 'grapevinelaw02.OctetJoinBack', WHERE WHAT IT READS IS OF BULK AT MOST 1048576: true; the input reads as it did. -/
def octetJoinBackUptoRow : OpenClaim := { program := "ytchanabiobcbhaa", sum := "6932906e2f2d513f5377b4370dc1027e5b63183e5b3d58aadc1ee9a4fe697056", func := "grapevine/grapevinelaw02.OctetJoinBack", spec := "octetJoinBack", apart := false, narrowed := true }
def OctetJoinBackUptoSaid : Prop := octetJoinBackUptoRow.holds Try.pinned (OpenSpec.upto octetJoinBackSpec)

/-- 'grapevinelaw02.OctetCuts', WHERE WHAT IT READS IS OF BULK AT MOST 1048576: true; the input reads as it did. -/
def octetCutsUptoRow : OpenClaim := { program := "ytchanabiobcbhaa", sum := "6932906e2f2d513f5377b4370dc1027e5b63183e5b3d58aadc1ee9a4fe697056", func := "grapevine/grapevinelaw02.OctetCuts", spec := "octetCuts", apart := false, narrowed := true }
def OctetCutsUptoSaid : Prop := octetCutsUptoRow.holds Try.pinned (OpenSpec.upto octetCutsSpec)

end Rows
end Go.Proofs.Ytchanabiobcbhaa
