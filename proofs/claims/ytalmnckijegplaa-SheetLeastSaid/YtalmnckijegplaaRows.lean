/-
  No cell of these rows narrows 'for every input' (looked for: loops, veiled, ifaces, maps, wideKeys, modest, calm, conditions, laid).
  DERIVED. THE GIVEN ROWS OF THIS SEAT. 12 by the template 'for every input the law returns true; each argument reads behind the call as it read before'; 0 by the template 'total and deterministic' (their statements: YtalmnckijegplaaTotals.lean).
  GIVEN WITH THE SEED: the statements are not yours to turn. If you find one false, say at which input.
  Laid BY PROGRAM, IN A SANDBOX (cutbox-rows.mjs): the forced cells as the released guide's own fill.sh prints them over the translation 285b18574000f525… (all of the seat's roots in one cut). By AI agents, Wed Nov 11 2026. No macro, syntax, notation, axiom, sorry.
-/
import Derived.Test.YtalmnckijegplaaChecked
import GoSem.Claim
import GoSem.ClaimJoined
import GoSem.ClaimMapViews
import Derived.JoinedTies
import Derived.KernelRfl
namespace Go.Proofs.Ytalmnckijegplaa
/- THE CELL 'sum', in the pinned program and in every row, IS THE sha256 OF THE DUMP (.gsa) THAT YtalmnckijegplaaProg.lean LOADS. Nothing in Lean hashes anything: it is a label: what it is worth is what the hold of that sum in a sandbox is worth. -/
noncomputable def Try.pinned : Pinned := { name := "ytalmnckijegplaa", sum := "285b18574000f5252cadee752aaeaa2fd3416f7f85c96f42533eec2029066b02", checked := Try.checked }
namespace Rows
def none {H : Type} : Left H := { results := [], args := [] }

/-- 'guillochelaw05.SheetPlans': WHATEVER THE INPUT: true; the input reads as it did. -/
def sheetPlansSpec : ChangeSpec := { name := "sheetPlans", fn := fun _ => fun
  | [d1, d2, d3, d4] => { results := [.lit (.bool true)], args := [d1, d2, d3, d4] }
  | _ => none }
def sheetPlansRow : OpenClaim := { program := "ytalmnckijegplaa", sum := "285b18574000f5252cadee752aaeaa2fd3416f7f85c96f42533eec2029066b02", func := "guilloche/guillochelaw05.SheetPlans", spec := "sheetPlans", unfollowed := true, recurses := true, apart := false }
def SheetPlansSaid : Prop := sheetPlansRow.holds Try.pinned (OpenSpec.ofChange sheetPlansSpec)

/-- ITS FALSE NEIGHBOUR: 'it returns false'. Refute it at one input. -/
def sheetPlansWrong : ChangeSpec := { name := "sheetPlans", fn := fun _ => fun
  | [d1, d2, d3, d4] => { results := [.lit (.bool false)], args := [d1, d2, d3, d4] }
  | _ => none }
def SheetPlansWrongFalsely : Prop := sheetPlansRow.holds Try.pinned (OpenSpec.ofChange sheetPlansWrong)

/-- 'guillochelaw05.SheetInverse': WHATEVER THE INPUT: true; the input reads as it did. -/
def sheetInverseSpec : ChangeSpec := { name := "sheetInverse", fn := fun _ => fun
  | [d1, d2, d3, d4] => { results := [.lit (.bool true)], args := [d1, d2, d3, d4] }
  | _ => none }
def sheetInverseRow : OpenClaim := { program := "ytalmnckijegplaa", sum := "285b18574000f5252cadee752aaeaa2fd3416f7f85c96f42533eec2029066b02", func := "guilloche/guillochelaw05.SheetInverse", spec := "sheetInverse", unfollowed := true, recurses := true, apart := false }
def SheetInverseSaid : Prop := sheetInverseRow.holds Try.pinned (OpenSpec.ofChange sheetInverseSpec)

/-- ITS FALSE NEIGHBOUR: 'it returns false'. Refute it at one input. -/
def sheetInverseWrong : ChangeSpec := { name := "sheetInverse", fn := fun _ => fun
  | [d1, d2, d3, d4] => { results := [.lit (.bool false)], args := [d1, d2, d3, d4] }
  | _ => none }
def SheetInverseWrongFalsely : Prop := sheetInverseRow.holds Try.pinned (OpenSpec.ofChange sheetInverseWrong)

/-- 'guillochelaw05.SheetMore': WHATEVER THE INPUT: true; the input reads as it did. -/
def sheetMoreSpec : ChangeSpec := { name := "sheetMore", fn := fun _ => fun
  | [d1, d2, d3, d4, d5] => { results := [.lit (.bool true)], args := [d1, d2, d3, d4, d5] }
  | _ => none }
def sheetMoreRow : OpenClaim := { program := "ytalmnckijegplaa", sum := "285b18574000f5252cadee752aaeaa2fd3416f7f85c96f42533eec2029066b02", func := "guilloche/guillochelaw05.SheetMore", spec := "sheetMore", unfollowed := true, recurses := true, apart := false }
def SheetMoreSaid : Prop := sheetMoreRow.holds Try.pinned (OpenSpec.ofChange sheetMoreSpec)

/-- ITS FALSE NEIGHBOUR: 'it returns false'. Refute it at one input. -/
def sheetMoreWrong : ChangeSpec := { name := "sheetMore", fn := fun _ => fun
  | [d1, d2, d3, d4, d5] => { results := [.lit (.bool false)], args := [d1, d2, d3, d4, d5] }
  | _ => none }
def SheetMoreWrongFalsely : Prop := sheetMoreRow.holds Try.pinned (OpenSpec.ofChange sheetMoreWrong)

/-- 'guillochelaw05.SheetNotes': WHATEVER THE INPUT: true; the input reads as it did. -/
def sheetNotesSpec : ChangeSpec := { name := "sheetNotes", fn := fun _ => fun
  | [d1, d2, d3, d4] => { results := [.lit (.bool true)], args := [d1, d2, d3, d4] }
  | _ => none }
def sheetNotesRow : OpenClaim := { program := "ytalmnckijegplaa", sum := "285b18574000f5252cadee752aaeaa2fd3416f7f85c96f42533eec2029066b02", func := "guilloche/guillochelaw05.SheetNotes", spec := "sheetNotes", unfollowed := true, recurses := true, apart := false }
def SheetNotesSaid : Prop := sheetNotesRow.holds Try.pinned (OpenSpec.ofChange sheetNotesSpec)

/-- ITS FALSE NEIGHBOUR: 'it returns false'. Refute it at one input. -/
def sheetNotesWrong : ChangeSpec := { name := "sheetNotes", fn := fun _ => fun
  | [d1, d2, d3, d4] => { results := [.lit (.bool false)], args := [d1, d2, d3, d4] }
  | _ => none }
def SheetNotesWrongFalsely : Prop := sheetNotesRow.holds Try.pinned (OpenSpec.ofChange sheetNotesWrong)

/-- 'guillochelaw05.SheetTables': WHATEVER THE INPUT: true; the input reads as it did. -/
def sheetTablesSpec : ChangeSpec := { name := "sheetTables", fn := fun _ => fun
  | [d1, d2] => { results := [.lit (.bool true)], args := [d1, d2] }
  | _ => none }
def sheetTablesRow : OpenClaim := { program := "ytalmnckijegplaa", sum := "285b18574000f5252cadee752aaeaa2fd3416f7f85c96f42533eec2029066b02", func := "guilloche/guillochelaw05.SheetTables", spec := "sheetTables", unfollowed := true, recurses := true, apart := false }
def SheetTablesSaid : Prop := sheetTablesRow.holds Try.pinned (OpenSpec.ofChange sheetTablesSpec)

/-- ITS FALSE NEIGHBOUR: 'it returns false'. Refute it at one input. -/
def sheetTablesWrong : ChangeSpec := { name := "sheetTables", fn := fun _ => fun
  | [d1, d2] => { results := [.lit (.bool false)], args := [d1, d2] }
  | _ => none }
def SheetTablesWrongFalsely : Prop := sheetTablesRow.holds Try.pinned (OpenSpec.ofChange sheetTablesWrong)

/-- 'guillochelaw05.SheetStacks': WHATEVER THE INPUT: true; the input reads as it did. -/
def sheetStacksSpec : ChangeSpec := { name := "sheetStacks", fn := fun _ => fun
  | [d1, d2, d3, d4, d5] => { results := [.lit (.bool true)], args := [d1, d2, d3, d4, d5] }
  | _ => none }
def sheetStacksRow : OpenClaim := { program := "ytalmnckijegplaa", sum := "285b18574000f5252cadee752aaeaa2fd3416f7f85c96f42533eec2029066b02", func := "guilloche/guillochelaw05.SheetStacks", spec := "sheetStacks", unfollowed := true, recurses := true, apart := false }
def SheetStacksSaid : Prop := sheetStacksRow.holds Try.pinned (OpenSpec.ofChange sheetStacksSpec)

/-- ITS FALSE NEIGHBOUR: 'it returns false'. Refute it at one input. -/
def sheetStacksWrong : ChangeSpec := { name := "sheetStacks", fn := fun _ => fun
  | [d1, d2, d3, d4, d5] => { results := [.lit (.bool false)], args := [d1, d2, d3, d4, d5] }
  | _ => none }
def SheetStacksWrongFalsely : Prop := sheetStacksRow.holds Try.pinned (OpenSpec.ofChange sheetStacksWrong)

/-- 'guillochelaw05.SheetCuts': WHATEVER THE INPUT: true; the input reads as it did. -/
def sheetCutsSpec : ChangeSpec := { name := "sheetCuts", fn := fun _ => fun
  | [d1, d2, d3] => { results := [.lit (.bool true)], args := [d1, d2, d3] }
  | _ => none }
def sheetCutsRow : OpenClaim := { program := "ytalmnckijegplaa", sum := "285b18574000f5252cadee752aaeaa2fd3416f7f85c96f42533eec2029066b02", func := "guilloche/guillochelaw05.SheetCuts", spec := "sheetCuts", unfollowed := true, recurses := true, apart := false }
def SheetCutsSaid : Prop := sheetCutsRow.holds Try.pinned (OpenSpec.ofChange sheetCutsSpec)

/-- ITS FALSE NEIGHBOUR: 'it returns false'. Refute it at one input. -/
def sheetCutsWrong : ChangeSpec := { name := "sheetCuts", fn := fun _ => fun
  | [d1, d2, d3] => { results := [.lit (.bool false)], args := [d1, d2, d3] }
  | _ => none }
def SheetCutsWrongFalsely : Prop := sheetCutsRow.holds Try.pinned (OpenSpec.ofChange sheetCutsWrong)

/-- 'guillochelaw05.SheetPrices': WHATEVER THE INPUT: true; the input reads as it did. -/
def sheetPricesSpec : ChangeSpec := { name := "sheetPrices", fn := fun _ => fun
  | [d1, d2, d3, d4, d5] => { results := [.lit (.bool true)], args := [d1, d2, d3, d4, d5] }
  | _ => none }
def sheetPricesRow : OpenClaim := { program := "ytalmnckijegplaa", sum := "285b18574000f5252cadee752aaeaa2fd3416f7f85c96f42533eec2029066b02", func := "guilloche/guillochelaw05.SheetPrices", spec := "sheetPrices", unfollowed := true, recurses := true, apart := false }
def SheetPricesSaid : Prop := sheetPricesRow.holds Try.pinned (OpenSpec.ofChange sheetPricesSpec)

/-- ITS FALSE NEIGHBOUR: 'it returns false'. Refute it at one input. -/
def sheetPricesWrong : ChangeSpec := { name := "sheetPrices", fn := fun _ => fun
  | [d1, d2, d3, d4, d5] => { results := [.lit (.bool false)], args := [d1, d2, d3, d4, d5] }
  | _ => none }
def SheetPricesWrongFalsely : Prop := sheetPricesRow.holds Try.pinned (OpenSpec.ofChange sheetPricesWrong)

/-- 'guillochelaw05.SheetLeast': WHATEVER THE INPUT: true; the input reads as it did. -/
def sheetLeastSpec : ChangeSpec := { name := "sheetLeast", fn := fun _ => fun
  | [d1, d2, d3, d4, d5] => { results := [.lit (.bool true)], args := [d1, d2, d3, d4, d5] }
  | _ => none }
def sheetLeastRow : OpenClaim := { program := "ytalmnckijegplaa", sum := "285b18574000f5252cadee752aaeaa2fd3416f7f85c96f42533eec2029066b02", func := "guilloche/guillochelaw05.SheetLeast", spec := "sheetLeast", unfollowed := true, recurses := true, apart := false }
def SheetLeastSaid : Prop := sheetLeastRow.holds Try.pinned (OpenSpec.ofChange sheetLeastSpec)

/-- ITS FALSE NEIGHBOUR: 'it returns false'. Refute it at one input. -/
def sheetLeastWrong : ChangeSpec := { name := "sheetLeast", fn := fun _ => fun
  | [d1, d2, d3, d4, d5] => { results := [.lit (.bool false)], args := [d1, d2, d3, d4, d5] }
  | _ => none }
def SheetLeastWrongFalsely : Prop := sheetLeastRow.holds Try.pinned (OpenSpec.ofChange sheetLeastWrong)

/-- 'guillochelaw05.SheetBundles': WHATEVER THE INPUT: true; the input reads as it did. -/
def sheetBundlesSpec : ChangeSpec := { name := "sheetBundles", fn := fun _ => fun
  | [d1, d2, d3, d4] => { results := [.lit (.bool true)], args := [d1, d2, d3, d4] }
  | _ => none }
def sheetBundlesRow : OpenClaim := { program := "ytalmnckijegplaa", sum := "285b18574000f5252cadee752aaeaa2fd3416f7f85c96f42533eec2029066b02", func := "guilloche/guillochelaw05.SheetBundles", spec := "sheetBundles", unfollowed := true, recurses := true, apart := false }
def SheetBundlesSaid : Prop := sheetBundlesRow.holds Try.pinned (OpenSpec.ofChange sheetBundlesSpec)

/-- ITS FALSE NEIGHBOUR: 'it returns false'. Refute it at one input. -/
def sheetBundlesWrong : ChangeSpec := { name := "sheetBundles", fn := fun _ => fun
  | [d1, d2, d3, d4] => { results := [.lit (.bool false)], args := [d1, d2, d3, d4] }
  | _ => none }
def SheetBundlesWrongFalsely : Prop := sheetBundlesRow.holds Try.pinned (OpenSpec.ofChange sheetBundlesWrong)

/-- 'guillochelaw05.SheetOnce': WHATEVER THE INPUT: true; the input reads as it did. -/
def sheetOnceSpec : ChangeSpec := { name := "sheetOnce", fn := fun _ => fun
  | [d1, d2, d3, d4] => { results := [.lit (.bool true)], args := [d1, d2, d3, d4] }
  | _ => none }
def sheetOnceRow : OpenClaim := { program := "ytalmnckijegplaa", sum := "285b18574000f5252cadee752aaeaa2fd3416f7f85c96f42533eec2029066b02", func := "guilloche/guillochelaw05.SheetOnce", spec := "sheetOnce", unfollowed := true, recurses := true, apart := false }
def SheetOnceSaid : Prop := sheetOnceRow.holds Try.pinned (OpenSpec.ofChange sheetOnceSpec)

/-- ITS FALSE NEIGHBOUR: 'it returns false'. Refute it at one input. -/
def sheetOnceWrong : ChangeSpec := { name := "sheetOnce", fn := fun _ => fun
  | [d1, d2, d3, d4] => { results := [.lit (.bool false)], args := [d1, d2, d3, d4] }
  | _ => none }
def SheetOnceWrongFalsely : Prop := sheetOnceRow.holds Try.pinned (OpenSpec.ofChange sheetOnceWrong)

/-- 'guillochelaw05.SheetErrors': WHATEVER THE INPUT: true; the input reads as it did. -/
def sheetErrorsSpec : ChangeSpec := { name := "sheetErrors", fn := fun _ => fun
  | [d1, d2, d3, d4, d5] => { results := [.lit (.bool true)], args := [d1, d2, d3, d4, d5] }
  | _ => none }
def sheetErrorsRow : OpenClaim := { program := "ytalmnckijegplaa", sum := "285b18574000f5252cadee752aaeaa2fd3416f7f85c96f42533eec2029066b02", func := "guilloche/guillochelaw05.SheetErrors", spec := "sheetErrors", unfollowed := true, recurses := true, apart := false }
def SheetErrorsSaid : Prop := sheetErrorsRow.holds Try.pinned (OpenSpec.ofChange sheetErrorsSpec)

/-- ITS FALSE NEIGHBOUR: 'it returns false'. Refute it at one input. -/
def sheetErrorsWrong : ChangeSpec := { name := "sheetErrors", fn := fun _ => fun
  | [d1, d2, d3, d4, d5] => { results := [.lit (.bool false)], args := [d1, d2, d3, d4, d5] }
  | _ => none }
def SheetErrorsWrongFalsely : Prop := sheetErrorsRow.holds Try.pinned (OpenSpec.ofChange sheetErrorsWrong)

/- THE SECOND FORM. 'bulk': how many values and letters a reading holds, each counted each time it is reached (what is shared counts as often as it is met; a slice's spare places count too). A statement '..UptoSaid' is the law's where the arguments, and the package variables that the reading takes, are together of bulk at most 1048576: NARROWER than '..Said'. Prove '..Said' where nothing that the law and all that it calls make is longer than what came in: it says more and counts as full. Else prove '..UptoSaid'. A law counts once. -/
mutual
def uptoBulk {H : Type} : DataW H → Nat
  | .lit (.string bytes) => bytes.length + 1
  | .lit _ => 1
  | .nil => 1
  | .ptr d => uptoBulk d + 1
  | .slice elems spare => uptoBulkAll elems + uptoBulkAll spare + 1
  | .agg parts => uptoBulkAll parts + 1
  | .iface _ d => uptoBulk d + 1
  | .map entries => uptoBulkEntries entries + 1
  | .held _ => 1
def uptoBulkAll {H : Type} : List (DataW H) → Nat
  | [] => 0
  | d :: r => uptoBulk d + uptoBulkAll r
def uptoBulkEntries {H : Type} : List (Lit × DataW H) → Nat
  | [] => 0
  | x :: r => uptoBulkEntry x + uptoBulkEntries r
def uptoBulkEntry {H : Type} : Lit × DataW H → Nat
  | (.string bytes, d) => bytes.length + uptoBulk d + 1
  | (_, d) => uptoBulk d + 1
 end
def uptoSmall : (H : Type) → List (DataW H) → Bool := fun _ ds => decide (uptoBulkAll ds ≤ 1048576)
def OpenSpec.upto (s : _root_.Go.ChangeSpec) : _root_.Go.OpenSpec := { _root_.Go.OpenSpec.ofChange s with cond := some uptoSmall }

/-- 'guillochelaw05.SheetPlans', WHERE WHAT IT READS IS OF BULK AT MOST 1048576: true; the input reads as it did. -/
def sheetPlansUptoRow : OpenClaim := { program := "ytalmnckijegplaa", sum := "285b18574000f5252cadee752aaeaa2fd3416f7f85c96f42533eec2029066b02", func := "guilloche/guillochelaw05.SheetPlans", spec := "sheetPlans", unfollowed := true, recurses := true, apart := false, narrowed := true }
def SheetPlansUptoSaid : Prop := sheetPlansUptoRow.holds Try.pinned (OpenSpec.upto sheetPlansSpec)

/-- 'guillochelaw05.SheetInverse', WHERE WHAT IT READS IS OF BULK AT MOST 1048576: true; the input reads as it did. -/
def sheetInverseUptoRow : OpenClaim := { program := "ytalmnckijegplaa", sum := "285b18574000f5252cadee752aaeaa2fd3416f7f85c96f42533eec2029066b02", func := "guilloche/guillochelaw05.SheetInverse", spec := "sheetInverse", unfollowed := true, recurses := true, apart := false, narrowed := true }
def SheetInverseUptoSaid : Prop := sheetInverseUptoRow.holds Try.pinned (OpenSpec.upto sheetInverseSpec)

/-- 'guillochelaw05.SheetMore', WHERE WHAT IT READS IS OF BULK AT MOST 1048576: true; the input reads as it did. -/
def sheetMoreUptoRow : OpenClaim := { program := "ytalmnckijegplaa", sum := "285b18574000f5252cadee752aaeaa2fd3416f7f85c96f42533eec2029066b02", func := "guilloche/guillochelaw05.SheetMore", spec := "sheetMore", unfollowed := true, recurses := true, apart := false, narrowed := true }
def SheetMoreUptoSaid : Prop := sheetMoreUptoRow.holds Try.pinned (OpenSpec.upto sheetMoreSpec)

/-- 'guillochelaw05.SheetNotes', WHERE WHAT IT READS IS OF BULK AT MOST 1048576: true; the input reads as it did. -/
def sheetNotesUptoRow : OpenClaim := { program := "ytalmnckijegplaa", sum := "285b18574000f5252cadee752aaeaa2fd3416f7f85c96f42533eec2029066b02", func := "guilloche/guillochelaw05.SheetNotes", spec := "sheetNotes", unfollowed := true, recurses := true, apart := false, narrowed := true }
def SheetNotesUptoSaid : Prop := sheetNotesUptoRow.holds Try.pinned (OpenSpec.upto sheetNotesSpec)

/-- 'guillochelaw05.SheetTables', WHERE WHAT IT READS IS OF BULK AT MOST 1048576: true; the input reads as it did. -/
def sheetTablesUptoRow : OpenClaim := { program := "ytalmnckijegplaa", sum := "285b18574000f5252cadee752aaeaa2fd3416f7f85c96f42533eec2029066b02", func := "guilloche/guillochelaw05.SheetTables", spec := "sheetTables", unfollowed := true, recurses := true, apart := false, narrowed := true }
def SheetTablesUptoSaid : Prop := sheetTablesUptoRow.holds Try.pinned (OpenSpec.upto sheetTablesSpec)

/-- 'guillochelaw05.SheetStacks', WHERE WHAT IT READS IS OF BULK AT MOST 1048576: true; the input reads as it did. -/
def sheetStacksUptoRow : OpenClaim := { program := "ytalmnckijegplaa", sum := "285b18574000f5252cadee752aaeaa2fd3416f7f85c96f42533eec2029066b02", func := "guilloche/guillochelaw05.SheetStacks", spec := "sheetStacks", unfollowed := true, recurses := true, apart := false, narrowed := true }
def SheetStacksUptoSaid : Prop := sheetStacksUptoRow.holds Try.pinned (OpenSpec.upto sheetStacksSpec)

/-- 'guillochelaw05.SheetCuts', WHERE WHAT IT READS IS OF BULK AT MOST 1048576: true; the input reads as it did. -/
def sheetCutsUptoRow : OpenClaim := { program := "ytalmnckijegplaa", sum := "285b18574000f5252cadee752aaeaa2fd3416f7f85c96f42533eec2029066b02", func := "guilloche/guillochelaw05.SheetCuts", spec := "sheetCuts", unfollowed := true, recurses := true, apart := false, narrowed := true }
def SheetCutsUptoSaid : Prop := sheetCutsUptoRow.holds Try.pinned (OpenSpec.upto sheetCutsSpec)

/-- 'guillochelaw05.SheetPrices', WHERE WHAT IT READS IS OF BULK AT MOST 1048576: true; the input reads as it did. -/
def sheetPricesUptoRow : OpenClaim := { program := "ytalmnckijegplaa", sum := "285b18574000f5252cadee752aaeaa2fd3416f7f85c96f42533eec2029066b02", func := "guilloche/guillochelaw05.SheetPrices", spec := "sheetPrices", unfollowed := true, recurses := true, apart := false, narrowed := true }
def SheetPricesUptoSaid : Prop := sheetPricesUptoRow.holds Try.pinned (OpenSpec.upto sheetPricesSpec)

/-- 'guillochelaw05.SheetLeast', WHERE WHAT IT READS IS OF BULK AT MOST 1048576: true; the input reads as it did. -/
def sheetLeastUptoRow : OpenClaim := { program := "ytalmnckijegplaa", sum := "285b18574000f5252cadee752aaeaa2fd3416f7f85c96f42533eec2029066b02", func := "guilloche/guillochelaw05.SheetLeast", spec := "sheetLeast", unfollowed := true, recurses := true, apart := false, narrowed := true }
def SheetLeastUptoSaid : Prop := sheetLeastUptoRow.holds Try.pinned (OpenSpec.upto sheetLeastSpec)

/-- 'guillochelaw05.SheetBundles', WHERE WHAT IT READS IS OF BULK AT MOST 1048576: true; the input reads as it did. -/
def sheetBundlesUptoRow : OpenClaim := { program := "ytalmnckijegplaa", sum := "285b18574000f5252cadee752aaeaa2fd3416f7f85c96f42533eec2029066b02", func := "guilloche/guillochelaw05.SheetBundles", spec := "sheetBundles", unfollowed := true, recurses := true, apart := false, narrowed := true }
def SheetBundlesUptoSaid : Prop := sheetBundlesUptoRow.holds Try.pinned (OpenSpec.upto sheetBundlesSpec)

/-- 'guillochelaw05.SheetOnce', WHERE WHAT IT READS IS OF BULK AT MOST 1048576: true; the input reads as it did. -/
def sheetOnceUptoRow : OpenClaim := { program := "ytalmnckijegplaa", sum := "285b18574000f5252cadee752aaeaa2fd3416f7f85c96f42533eec2029066b02", func := "guilloche/guillochelaw05.SheetOnce", spec := "sheetOnce", unfollowed := true, recurses := true, apart := false, narrowed := true }
def SheetOnceUptoSaid : Prop := sheetOnceUptoRow.holds Try.pinned (OpenSpec.upto sheetOnceSpec)

/-- 'guillochelaw05.SheetErrors', WHERE WHAT IT READS IS OF BULK AT MOST 1048576: true; the input reads as it did. -/
def sheetErrorsUptoRow : OpenClaim := { program := "ytalmnckijegplaa", sum := "285b18574000f5252cadee752aaeaa2fd3416f7f85c96f42533eec2029066b02", func := "guilloche/guillochelaw05.SheetErrors", spec := "sheetErrors", unfollowed := true, recurses := true, apart := false, narrowed := true }
def SheetErrorsUptoSaid : Prop := sheetErrorsUptoRow.holds Try.pinned (OpenSpec.upto sheetErrorsSpec)

end Rows
end Go.Proofs.Ytalmnckijegplaa
