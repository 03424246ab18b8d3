/-
  No cell of these rows narrows 'for every input' (looked for: loops, veiled, ifaces, maps, wideKeys, modest, calm, conditions, laid).
  DERIVED. THE GIVEN ROWS OF THIS SEAT. 11 by the template 'for every input the law returns true; each argument reads behind the call as it read before'; 0 by the template 'total and deterministic' (their statements: YtehfkjjmangjlaaTotals.lean).
  GIVEN WITH THE SEED: the statements are not yours to turn. If you find one false, say at which input.
  Laid BY PROGRAM, IN A SANDBOX (cutbox-rows.mjs): the forced cells as the released guide's own fill.sh prints them over the translation cd1bddc84eee31e1… (all of the seat's roots in one cut). By AI agents, Wed Nov 11 2026. No macro, syntax, notation, axiom, sorry.
-/
import Derived.Test.YtehfkjjmangjlaaChecked
import GoSem.Claim
import GoSem.ClaimJoined
import GoSem.ClaimMapViews
import Derived.JoinedTies
import Derived.KernelRfl
namespace Go.Proofs.Ytehfkjjmangjlaa
/- THE CELL 'sum', in the pinned program and in every row, IS THE sha256 OF THE DUMP (.gsa) THAT YtehfkjjmangjlaaProg.lean LOADS. Nothing in Lean hashes anything: it is a label: what it is worth is what the hold of that sum in a sandbox is worth. -/
noncomputable def Try.pinned : Pinned := { name := "ytehfkjjmangjlaa", sum := "cd1bddc84eee31e16923083129b27b502d656934f68cec423414a14fb2f87481", checked := Try.checked }
namespace Rows
def none {H : Type} : Left H := { results := [], args := [] }

/-- 'aditlaw01.WordsTurns': WHATEVER THE INPUT: true; the input reads as it did. -/
def wordsTurnsSpec : ChangeSpec := { name := "wordsTurns", fn := fun _ => fun
  | [d1, d2, d3] => { results := [.lit (.bool true)], args := [d1, d2, d3] }
  | _ => none }
def wordsTurnsRow : OpenClaim := { program := "ytehfkjjmangjlaa", sum := "cd1bddc84eee31e16923083129b27b502d656934f68cec423414a14fb2f87481", func := "adit/aditlaw01.WordsTurns", spec := "wordsTurns", apart := false }
def WordsTurnsSaid : Prop := wordsTurnsRow.holds Try.pinned (OpenSpec.ofChange wordsTurnsSpec)

/-- ITS FALSE NEIGHBOUR: 'it returns false'. Refute it at one input. -/
def wordsTurnsWrong : ChangeSpec := { name := "wordsTurns", fn := fun _ => fun
  | [d1, d2, d3] => { results := [.lit (.bool false)], args := [d1, d2, d3] }
  | _ => none }
def WordsTurnsWrongFalsely : Prop := wordsTurnsRow.holds Try.pinned (OpenSpec.ofChange wordsTurnsWrong)

/-- 'aditlaw01.WordsHex': WHATEVER THE INPUT: true; the input reads as it did. -/
def wordsHexSpec : ChangeSpec := { name := "wordsHex", fn := fun _ => fun
  | [d1, d2] => { results := [.lit (.bool true)], args := [d1, d2] }
  | _ => none }
def wordsHexRow : OpenClaim := { program := "ytehfkjjmangjlaa", sum := "cd1bddc84eee31e16923083129b27b502d656934f68cec423414a14fb2f87481", func := "adit/aditlaw01.WordsHex", spec := "wordsHex", apart := false }
def WordsHexSaid : Prop := wordsHexRow.holds Try.pinned (OpenSpec.ofChange wordsHexSpec)

/-- ITS FALSE NEIGHBOUR: 'it returns false'. Refute it at one input. -/
def wordsHexWrong : ChangeSpec := { name := "wordsHex", fn := fun _ => fun
  | [d1, d2] => { results := [.lit (.bool false)], args := [d1, d2] }
  | _ => none }
def WordsHexWrongFalsely : Prop := wordsHexRow.holds Try.pinned (OpenSpec.ofChange wordsHexWrong)

/-- 'aditlaw09.StampLabels': WHATEVER THE INPUT: true; the input reads as it did. -/
def stampLabelsSpec : ChangeSpec := { name := "stampLabels", fn := fun _ => fun
  | [d1, d2] => { results := [.lit (.bool true)], args := [d1, d2] }
  | _ => none }
def stampLabelsRow : OpenClaim := { program := "ytehfkjjmangjlaa", sum := "cd1bddc84eee31e16923083129b27b502d656934f68cec423414a14fb2f87481", func := "adit/aditlaw09.StampLabels", spec := "stampLabels", apart := false }
def StampLabelsSaid : Prop := stampLabelsRow.holds Try.pinned (OpenSpec.ofChange stampLabelsSpec)

/-- ITS FALSE NEIGHBOUR: 'it returns false'. Refute it at one input. -/
def stampLabelsWrong : ChangeSpec := { name := "stampLabels", fn := fun _ => fun
  | [d1, d2] => { results := [.lit (.bool false)], args := [d1, d2] }
  | _ => none }
def StampLabelsWrongFalsely : Prop := stampLabelsRow.holds Try.pinned (OpenSpec.ofChange stampLabelsWrong)

/-- 'aditlaw09.StampBack': WHATEVER THE INPUT: true; the input reads as it did. -/
def stampBackSpec : ChangeSpec := { name := "stampBack", fn := fun _ => fun
  | [d1, d2] => { results := [.lit (.bool true)], args := [d1, d2] }
  | _ => none }
def stampBackRow : OpenClaim := { program := "ytehfkjjmangjlaa", sum := "cd1bddc84eee31e16923083129b27b502d656934f68cec423414a14fb2f87481", func := "adit/aditlaw09.StampBack", spec := "stampBack", apart := false }
def StampBackSaid : Prop := stampBackRow.holds Try.pinned (OpenSpec.ofChange stampBackSpec)

/-- ITS FALSE NEIGHBOUR: 'it returns false'. Refute it at one input. -/
def stampBackWrong : ChangeSpec := { name := "stampBack", fn := fun _ => fun
  | [d1, d2] => { results := [.lit (.bool false)], args := [d1, d2] }
  | _ => none }
def StampBackWrongFalsely : Prop := stampBackRow.holds Try.pinned (OpenSpec.ofChange stampBackWrong)

/-- 'aditlaw09.StampTotal': WHATEVER THE INPUT: true; the input reads as it did. -/
def stampTotalSpec : ChangeSpec := { name := "stampTotal", fn := fun _ => fun
  | [d1, d2, d3] => { results := [.lit (.bool true)], args := [d1, d2, d3] }
  | _ => none }
def stampTotalRow : OpenClaim := { program := "ytehfkjjmangjlaa", sum := "cd1bddc84eee31e16923083129b27b502d656934f68cec423414a14fb2f87481", func := "adit/aditlaw09.StampTotal", spec := "stampTotal", apart := false }
def StampTotalSaid : Prop := stampTotalRow.holds Try.pinned (OpenSpec.ofChange stampTotalSpec)

/-- ITS FALSE NEIGHBOUR: 'it returns false'. Refute it at one input. -/
def stampTotalWrong : ChangeSpec := { name := "stampTotal", fn := fun _ => fun
  | [d1, d2, d3] => { results := [.lit (.bool false)], args := [d1, d2, d3] }
  | _ => none }
def StampTotalWrongFalsely : Prop := stampTotalRow.holds Try.pinned (OpenSpec.ofChange stampTotalWrong)

/-- 'aditlaw09.StampOrder': WHATEVER THE INPUT: true; the input reads as it did. -/
def stampOrderSpec : ChangeSpec := { name := "stampOrder", fn := fun _ => fun
  | [d1, d2] => { results := [.lit (.bool true)], args := [d1, d2] }
  | _ => none }
def stampOrderRow : OpenClaim := { program := "ytehfkjjmangjlaa", sum := "cd1bddc84eee31e16923083129b27b502d656934f68cec423414a14fb2f87481", func := "adit/aditlaw09.StampOrder", spec := "stampOrder", apart := false }
def StampOrderSaid : Prop := stampOrderRow.holds Try.pinned (OpenSpec.ofChange stampOrderSpec)

/-- ITS FALSE NEIGHBOUR: 'it returns false'. Refute it at one input. -/
def stampOrderWrong : ChangeSpec := { name := "stampOrder", fn := fun _ => fun
  | [d1, d2] => { results := [.lit (.bool false)], args := [d1, d2] }
  | _ => none }
def StampOrderWrongFalsely : Prop := stampOrderRow.holds Try.pinned (OpenSpec.ofChange stampOrderWrong)

/-- 'aditlaw01.WordsDigits': WHATEVER THE INPUT: true; the input reads as it did. -/
def wordsDigitsSpec : ChangeSpec := { name := "wordsDigits", fn := fun _ => fun
  | [d1, d2, d3] => { results := [.lit (.bool true)], args := [d1, d2, d3] }
  | _ => none }
def wordsDigitsRow : OpenClaim := { program := "ytehfkjjmangjlaa", sum := "cd1bddc84eee31e16923083129b27b502d656934f68cec423414a14fb2f87481", func := "adit/aditlaw01.WordsDigits", spec := "wordsDigits", apart := false }
def WordsDigitsSaid : Prop := wordsDigitsRow.holds Try.pinned (OpenSpec.ofChange wordsDigitsSpec)

/-- ITS FALSE NEIGHBOUR: 'it returns false'. Refute it at one input. -/
def wordsDigitsWrong : ChangeSpec := { name := "wordsDigits", fn := fun _ => fun
  | [d1, d2, d3] => { results := [.lit (.bool false)], args := [d1, d2, d3] }
  | _ => none }
def WordsDigitsWrongFalsely : Prop := wordsDigitsRow.holds Try.pinned (OpenSpec.ofChange wordsDigitsWrong)

/-- 'aditlaw09.StampHolds': WHATEVER THE INPUT: true; the input reads as it did. -/
def stampHoldsSpec : ChangeSpec := { name := "stampHolds", fn := fun _ => fun
  | [d1, d2, d3, d4] => { results := [.lit (.bool true)], args := [d1, d2, d3, d4] }
  | _ => none }
def stampHoldsRow : OpenClaim := { program := "ytehfkjjmangjlaa", sum := "cd1bddc84eee31e16923083129b27b502d656934f68cec423414a14fb2f87481", func := "adit/aditlaw09.StampHolds", spec := "stampHolds", apart := false }
def StampHoldsSaid : Prop := stampHoldsRow.holds Try.pinned (OpenSpec.ofChange stampHoldsSpec)

/-- ITS FALSE NEIGHBOUR: 'it returns false'. Refute it at one input. -/
def stampHoldsWrong : ChangeSpec := { name := "stampHolds", fn := fun _ => fun
  | [d1, d2, d3, d4] => { results := [.lit (.bool false)], args := [d1, d2, d3, d4] }
  | _ => none }
def StampHoldsWrongFalsely : Prop := stampHoldsRow.holds Try.pinned (OpenSpec.ofChange stampHoldsWrong)

/-- 'aditlaw01.WordsLoads': WHATEVER THE INPUT: true; the input reads as it did. -/
def wordsLoadsSpec : ChangeSpec := { name := "wordsLoads", fn := fun _ => fun
  | [d1, d2, d3] => { results := [.lit (.bool true)], args := [d1, d2, d3] }
  | _ => none }
def wordsLoadsRow : OpenClaim := { program := "ytehfkjjmangjlaa", sum := "cd1bddc84eee31e16923083129b27b502d656934f68cec423414a14fb2f87481", func := "adit/aditlaw01.WordsLoads", spec := "wordsLoads", apart := false }
def WordsLoadsSaid : Prop := wordsLoadsRow.holds Try.pinned (OpenSpec.ofChange wordsLoadsSpec)

/-- ITS FALSE NEIGHBOUR: 'it returns false'. Refute it at one input. -/
def wordsLoadsWrong : ChangeSpec := { name := "wordsLoads", fn := fun _ => fun
  | [d1, d2, d3] => { results := [.lit (.bool false)], args := [d1, d2, d3] }
  | _ => none }
def WordsLoadsWrongFalsely : Prop := wordsLoadsRow.holds Try.pinned (OpenSpec.ofChange wordsLoadsWrong)

/-- 'aditlaw01.WordsPuts': WHATEVER THE INPUT: true; the input reads as it did. -/
def wordsPutsSpec : ChangeSpec := { name := "wordsPuts", fn := fun _ => fun
  | [d1, d2, d3, d4] => { results := [.lit (.bool true)], args := [d1, d2, d3, d4] }
  | _ => none }
def wordsPutsRow : OpenClaim := { program := "ytehfkjjmangjlaa", sum := "cd1bddc84eee31e16923083129b27b502d656934f68cec423414a14fb2f87481", func := "adit/aditlaw01.WordsPuts", spec := "wordsPuts", apart := false }
def WordsPutsSaid : Prop := wordsPutsRow.holds Try.pinned (OpenSpec.ofChange wordsPutsSpec)

/-- ITS FALSE NEIGHBOUR: 'it returns false'. Refute it at one input. -/
def wordsPutsWrong : ChangeSpec := { name := "wordsPuts", fn := fun _ => fun
  | [d1, d2, d3, d4] => { results := [.lit (.bool false)], args := [d1, d2, d3, d4] }
  | _ => none }
def WordsPutsWrongFalsely : Prop := wordsPutsRow.holds Try.pinned (OpenSpec.ofChange wordsPutsWrong)

/-- 'aditlaw01.WordsBack': WHATEVER THE INPUT: true; the input reads as it did. -/
def wordsBackSpec : ChangeSpec := { name := "wordsBack", fn := fun _ => fun
  | [d1, d2, d3] => { results := [.lit (.bool true)], args := [d1, d2, d3] }
  | _ => none }
def wordsBackRow : OpenClaim := { program := "ytehfkjjmangjlaa", sum := "cd1bddc84eee31e16923083129b27b502d656934f68cec423414a14fb2f87481", func := "adit/aditlaw01.WordsBack", spec := "wordsBack", apart := false }
def WordsBackSaid : Prop := wordsBackRow.holds Try.pinned (OpenSpec.ofChange wordsBackSpec)

/-- ITS FALSE NEIGHBOUR: 'it returns false'. Refute it at one input. -/
def wordsBackWrong : ChangeSpec := { name := "wordsBack", fn := fun _ => fun
  | [d1, d2, d3] => { results := [.lit (.bool false)], args := [d1, d2, d3] }
  | _ => none }
def WordsBackWrongFalsely : Prop := wordsBackRow.holds Try.pinned (OpenSpec.ofChange wordsBackWrong)

/- THE SECOND FORM. 'bulk': how many values and letters a reading holds, each counted each time it is reached (what is shared counts as often as it is met; a slice's spare places count too). A statement '..UptoSaid' is the law's where the arguments, and the package variables that the reading takes, are together of bulk at most 1048576: NARROWER than '..Said'. Prove '..Said' where nothing that the law and all that it calls make is longer than what came in: it says more and counts as full. Else prove '..UptoSaid'. A law counts once. -/
mutual
def uptoBulk {H : Type} : DataW H → Nat
  | .lit (.string bytes) => bytes.length + 1
  | .lit _ => 1
  | .nil => 1
  | .ptr d => uptoBulk d + 1
  | .slice elems spare => uptoBulkAll elems + uptoBulkAll spare + 1
  | .agg parts => uptoBulkAll parts + 1
  | .iface _ d => uptoBulk d + 1
  | .map entries => uptoBulkEntries entries + 1
  | .held _ => 1
def uptoBulkAll {H : Type} : List (DataW H) → Nat
  | [] => 0
  | d :: r => uptoBulk d + uptoBulkAll r
def uptoBulkEntries {H : Type} : List (Lit × DataW H) → Nat
  | [] => 0
  | x :: r => uptoBulkEntry x + uptoBulkEntries r
def uptoBulkEntry {H : Type} : Lit × DataW H → Nat
  | (.string bytes, d) => bytes.length + uptoBulk d + 1
  | (_, d) => uptoBulk d + 1
 end
def uptoSmall : (H : Type) → List (DataW H) → Bool := fun _ ds => decide (uptoBulkAll ds ≤ 1048576)
def OpenSpec.upto (s : _root_.Go.ChangeSpec) : _root_.Go.OpenSpec := { _root_.Go.OpenSpec.ofChange s with cond := some uptoSmall }

/-- 'aditlaw01.WordsTurns', WHERE WHAT IT READS IS OF BULK AT MOST 1048576: true; the input reads as it did. -/
def wordsTurnsUptoRow : OpenClaim := { program := "ytehfkjjmangjlaa", sum := "cd1bddc84eee31e16923083129b27b502d656934f68cec423414a14fb2f87481", func := "adit/aditlaw01.WordsTurns", spec := "wordsTurns", apart := false, narrowed := true }
def WordsTurnsUptoSaid : Prop := wordsTurnsUptoRow.holds Try.pinned (OpenSpec.upto wordsTurnsSpec)

/-- 'aditlaw01.WordsHex', WHERE WHAT IT READS IS OF BULK AT MOST 1048576: true; the input reads as it did. -/
def wordsHexUptoRow : OpenClaim := { program := "ytehfkjjmangjlaa", sum := "cd1bddc84eee31e16923083129b27b502d656934f68cec423414a14fb2f87481", func := "adit/aditlaw01.WordsHex", spec := "wordsHex", apart := false, narrowed := true }
def WordsHexUptoSaid : Prop := wordsHexUptoRow.holds Try.pinned (OpenSpec.upto wordsHexSpec)

/-- 'aditlaw09.StampLabels', WHERE WHAT IT READS IS OF BULK AT MOST 1048576: true; the input reads as it did. -/
def stampLabelsUptoRow : OpenClaim := { program := "ytehfkjjmangjlaa", sum := "cd1bddc84eee31e16923083129b27b502d656934f68cec423414a14fb2f87481", func := "adit/aditlaw09.StampLabels", spec := "stampLabels", apart := false, narrowed := true }
def StampLabelsUptoSaid : Prop := stampLabelsUptoRow.holds Try.pinned (OpenSpec.upto stampLabelsSpec)

/-- 'aditlaw09.StampBack', WHERE WHAT IT READS IS OF BULK AT MOST 1048576: true; the input reads as it did. -/
def stampBackUptoRow : OpenClaim := { program := "ytehfkjjmangjlaa", sum := "cd1bddc84eee31e16923083129b27b502d656934f68cec423414a14fb2f87481", func := "adit/aditlaw09.StampBack", spec := "stampBack", apart := false, narrowed := true }
def StampBackUptoSaid : Prop := stampBackUptoRow.holds Try.pinned (OpenSpec.upto stampBackSpec)

/-- 'aditlaw09.StampTotal', WHERE WHAT IT READS IS OF BULK AT MOST 1048576: true; the input reads as it did. -/
def stampTotalUptoRow : OpenClaim := { program := "ytehfkjjmangjlaa", sum := "cd1bddc84eee31e16923083129b27b502d656934f68cec423414a14fb2f87481", func := "adit/aditlaw09.StampTotal", spec := "stampTotal", apart := false, narrowed := true }
def StampTotalUptoSaid : Prop := stampTotalUptoRow.holds Try.pinned (OpenSpec.upto stampTotalSpec)

/-- 'aditlaw09.StampOrder', WHERE WHAT IT READS IS OF BULK AT MOST 1048576: true; the input reads as it did. -/
def stampOrderUptoRow : OpenClaim := { program := "ytehfkjjmangjlaa", sum := "cd1bddc84eee31e16923083129b27b502d656934f68cec423414a14fb2f87481", func := "adit/aditlaw09.StampOrder", spec := "stampOrder", apart := false, narrowed := true }
def StampOrderUptoSaid : Prop := stampOrderUptoRow.holds Try.pinned (OpenSpec.upto stampOrderSpec)

/-- 'aditlaw01.WordsDigits', WHERE WHAT IT READS IS OF BULK AT MOST 1048576: true; the input reads as it did. -/
def wordsDigitsUptoRow : OpenClaim := { program := "ytehfkjjmangjlaa", sum := "cd1bddc84eee31e16923083129b27b502d656934f68cec423414a14fb2f87481", func := "adit/aditlaw01.WordsDigits", spec := "wordsDigits", apart := false, narrowed := true }
def WordsDigitsUptoSaid : Prop := wordsDigitsUptoRow.holds Try.pinned (OpenSpec.upto wordsDigitsSpec)

/-- 'aditlaw09.StampHolds', WHERE WHAT IT READS IS OF BULK AT MOST 1048576: true; the input reads as it did. -/
def stampHoldsUptoRow : OpenClaim := { program := "ytehfkjjmangjlaa", sum := "cd1bddc84eee31e16923083129b27b502d656934f68cec423414a14fb2f87481", func := "adit/aditlaw09.StampHolds", spec := "stampHolds", apart := false, narrowed := true }
def StampHoldsUptoSaid : Prop := stampHoldsUptoRow.holds Try.pinned (OpenSpec.upto stampHoldsSpec)

/-- 'aditlaw01.WordsLoads', WHERE WHAT IT READS IS OF BULK AT MOST 1048576: true; the input reads as it did. -/
def wordsLoadsUptoRow : OpenClaim := { program := "ytehfkjjmangjlaa", sum := "cd1bddc84eee31e16923083129b27b502d656934f68cec423414a14fb2f87481", func := "adit/aditlaw01.WordsLoads", spec := "wordsLoads", apart := false, narrowed := true }
def WordsLoadsUptoSaid : Prop := wordsLoadsUptoRow.holds Try.pinned (OpenSpec.upto wordsLoadsSpec)

/-- 'aditlaw01.WordsPuts', WHERE WHAT IT READS IS OF BULK AT MOST 1048576: true; the input reads as it did. -/
def wordsPutsUptoRow : OpenClaim := { program := "ytehfkjjmangjlaa", sum := "cd1bddc84eee31e16923083129b27b502d656934f68cec423414a14fb2f87481", func := "adit/aditlaw01.WordsPuts", spec := "wordsPuts", apart := false, narrowed := true }
def WordsPutsUptoSaid : Prop := wordsPutsUptoRow.holds Try.pinned (OpenSpec.upto wordsPutsSpec)

/-- 'aditlaw01.WordsBack', WHERE WHAT IT READS IS OF BULK AT MOST 1048576: true; the input reads as it did. -/
def wordsBackUptoRow : OpenClaim := { program := "ytehfkjjmangjlaa", sum := "cd1bddc84eee31e16923083129b27b502d656934f68cec423414a14fb2f87481", func := "adit/aditlaw01.WordsBack", spec := "wordsBack", apart := false, narrowed := true }
def WordsBackUptoSaid : Prop := wordsBackUptoRow.holds Try.pinned (OpenSpec.upto wordsBackSpec)

end Rows
end Go.Proofs.Ytehfkjjmangjlaa
