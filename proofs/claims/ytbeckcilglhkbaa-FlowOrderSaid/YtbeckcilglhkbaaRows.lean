/-
  No cell of these rows narrows 'for every input' (looked for: loops, veiled, ifaces, maps, wideKeys, modest, calm, conditions, laid).
  DERIVED. THE GIVEN ROWS OF THIS SEAT. 12 by the template 'for every input the law returns true; each argument reads behind the call as it read before'; 0 by the template 'total and deterministic' (their statements: YtbeckcilglhkbaaTotals.lean).
  GIVEN WITH THE SEED: the statements are not yours to turn. If you find one false, say at which input.
  Laid BY PROGRAM, IN A SANDBOX (cutbox-rows.mjs): the forced cells as the released guide's own fill.sh prints them over the translation d40b6a5eb19af0d8… (all of the seat's roots in one cut). By AI agents, Wed Nov 11 2026. No macro, syntax, notation, axiom, sorry.
-/
import Derived.Test.YtbeckcilglhkbaaChecked
import GoSem.Claim
import GoSem.ClaimJoined
import GoSem.ClaimMapViews
import Derived.JoinedTies
import Derived.KernelRfl
namespace Go.Proofs.Ytbeckcilglhkbaa
/- THE CELL 'sum', in the pinned program and in every row, IS THE sha256 OF THE DUMP (.gsa) THAT YtbeckcilglhkbaaProg.lean LOADS. Nothing in Lean hashes anything: it is a label: what it is worth is what the hold of that sum in a sandbox is worth. -/
noncomputable def Try.pinned : Pinned := { name := "ytbeckcilglhkbaa", sum := "d40b6a5eb19af0d8405fa8aed7e09976a0b6f646b5715064a3dde497b4103523", checked := Try.checked }
namespace Rows
def none {H : Type} : Left H := { results := [], args := [] }

/-- 'guillochelaw04.FlowSolves': WHATEVER THE INPUT: true; the input reads as it did. -/
def flowSolvesSpec : ChangeSpec := { name := "flowSolves", fn := fun _ => fun
  | [d1, d2] => { results := [.lit (.bool true)], args := [d1, d2] }
  | _ => none }
def flowSolvesRow : OpenClaim := { program := "ytbeckcilglhkbaa", sum := "d40b6a5eb19af0d8405fa8aed7e09976a0b6f646b5715064a3dde497b4103523", func := "guilloche/guillochelaw04.FlowSolves", spec := "flowSolves", unfollowed := true, recurses := true, apart := false }
def FlowSolvesSaid : Prop := flowSolvesRow.holds Try.pinned (OpenSpec.ofChange flowSolvesSpec)

/-- ITS FALSE NEIGHBOUR: 'it returns false'. Refute it at one input. -/
def flowSolvesWrong : ChangeSpec := { name := "flowSolves", fn := fun _ => fun
  | [d1, d2] => { results := [.lit (.bool false)], args := [d1, d2] }
  | _ => none }
def FlowSolvesWrongFalsely : Prop := flowSolvesRow.holds Try.pinned (OpenSpec.ofChange flowSolvesWrong)

/-- 'guillochelaw04.FlowCloses': WHATEVER THE INPUT: true; the input reads as it did. -/
def flowClosesSpec : ChangeSpec := { name := "flowCloses", fn := fun _ => fun
  | [d1, d2] => { results := [.lit (.bool true)], args := [d1, d2] }
  | _ => none }
def flowClosesRow : OpenClaim := { program := "ytbeckcilglhkbaa", sum := "d40b6a5eb19af0d8405fa8aed7e09976a0b6f646b5715064a3dde497b4103523", func := "guilloche/guillochelaw04.FlowCloses", spec := "flowCloses", unfollowed := true, recurses := true, apart := false }
def FlowClosesSaid : Prop := flowClosesRow.holds Try.pinned (OpenSpec.ofChange flowClosesSpec)

/-- ITS FALSE NEIGHBOUR: 'it returns false'. Refute it at one input. -/
def flowClosesWrong : ChangeSpec := { name := "flowCloses", fn := fun _ => fun
  | [d1, d2] => { results := [.lit (.bool false)], args := [d1, d2] }
  | _ => none }
def FlowClosesWrongFalsely : Prop := flowClosesRow.holds Try.pinned (OpenSpec.ofChange flowClosesWrong)

/-- 'guillochelaw04.FlowConvex': WHATEVER THE INPUT: true; the input reads as it did. -/
def flowConvexSpec : ChangeSpec := { name := "flowConvex", fn := fun _ => fun
  | [d1, d2] => { results := [.lit (.bool true)], args := [d1, d2] }
  | _ => none }
def flowConvexRow : OpenClaim := { program := "ytbeckcilglhkbaa", sum := "d40b6a5eb19af0d8405fa8aed7e09976a0b6f646b5715064a3dde497b4103523", func := "guilloche/guillochelaw04.FlowConvex", spec := "flowConvex", unfollowed := true, recurses := true, apart := false }
def FlowConvexSaid : Prop := flowConvexRow.holds Try.pinned (OpenSpec.ofChange flowConvexSpec)

/-- ITS FALSE NEIGHBOUR: 'it returns false'. Refute it at one input. -/
def flowConvexWrong : ChangeSpec := { name := "flowConvex", fn := fun _ => fun
  | [d1, d2] => { results := [.lit (.bool false)], args := [d1, d2] }
  | _ => none }
def FlowConvexWrongFalsely : Prop := flowConvexRow.holds Try.pinned (OpenSpec.ofChange flowConvexWrong)

/-- 'guillochelaw04.FlowClosures': WHATEVER THE INPUT: true; the input reads as it did. -/
def flowClosuresSpec : ChangeSpec := { name := "flowClosures", fn := fun _ => fun
  | [d1, d2, d3] => { results := [.lit (.bool true)], args := [d1, d2, d3] }
  | _ => none }
def flowClosuresRow : OpenClaim := { program := "ytbeckcilglhkbaa", sum := "d40b6a5eb19af0d8405fa8aed7e09976a0b6f646b5715064a3dde497b4103523", func := "guilloche/guillochelaw04.FlowClosures", spec := "flowClosures", unfollowed := true, recurses := true, apart := false }
def FlowClosuresSaid : Prop := flowClosuresRow.holds Try.pinned (OpenSpec.ofChange flowClosuresSpec)

/-- ITS FALSE NEIGHBOUR: 'it returns false'. Refute it at one input. -/
def flowClosuresWrong : ChangeSpec := { name := "flowClosures", fn := fun _ => fun
  | [d1, d2, d3] => { results := [.lit (.bool false)], args := [d1, d2, d3] }
  | _ => none }
def FlowClosuresWrongFalsely : Prop := flowClosuresRow.holds Try.pinned (OpenSpec.ofChange flowClosuresWrong)

/-- 'guillochelaw04.FlowCuts': WHATEVER THE INPUT: true; the input reads as it did. -/
def flowCutsSpec : ChangeSpec := { name := "flowCuts", fn := fun _ => fun
  | [d] => { results := [.lit (.bool true)], args := [d] }
  | _ => none }
def flowCutsRow : OpenClaim := { program := "ytbeckcilglhkbaa", sum := "d40b6a5eb19af0d8405fa8aed7e09976a0b6f646b5715064a3dde497b4103523", func := "guilloche/guillochelaw04.FlowCuts", spec := "flowCuts", unfollowed := true, recurses := true, apart := false }
def FlowCutsSaid : Prop := flowCutsRow.holds Try.pinned (OpenSpec.ofChange flowCutsSpec)

/-- ITS FALSE NEIGHBOUR: 'it returns false'. Refute it at one input. -/
def flowCutsWrong : ChangeSpec := { name := "flowCuts", fn := fun _ => fun
  | [d] => { results := [.lit (.bool false)], args := [d] }
  | _ => none }
def FlowCutsWrongFalsely : Prop := flowCutsRow.holds Try.pinned (OpenSpec.ofChange flowCutsWrong)

/-- 'guillochelaw04.FlowWeak': WHATEVER THE INPUT: true; the input reads as it did. -/
def flowWeakSpec : ChangeSpec := { name := "flowWeak", fn := fun _ => fun
  | [d1, d2] => { results := [.lit (.bool true)], args := [d1, d2] }
  | _ => none }
def flowWeakRow : OpenClaim := { program := "ytbeckcilglhkbaa", sum := "d40b6a5eb19af0d8405fa8aed7e09976a0b6f646b5715064a3dde497b4103523", func := "guilloche/guillochelaw04.FlowWeak", spec := "flowWeak", unfollowed := true, recurses := true, apart := false }
def FlowWeakSaid : Prop := flowWeakRow.holds Try.pinned (OpenSpec.ofChange flowWeakSpec)

/-- ITS FALSE NEIGHBOUR: 'it returns false'. Refute it at one input. -/
def flowWeakWrong : ChangeSpec := { name := "flowWeak", fn := fun _ => fun
  | [d1, d2] => { results := [.lit (.bool false)], args := [d1, d2] }
  | _ => none }
def FlowWeakWrongFalsely : Prop := flowWeakRow.holds Try.pinned (OpenSpec.ofChange flowWeakWrong)

/-- 'guillochelaw04.FlowOrder': WHATEVER THE INPUT: true; the input reads as it did. -/
def flowOrderSpec : ChangeSpec := { name := "flowOrder", fn := fun _ => fun
  | [d1, d2, d3] => { results := [.lit (.bool true)], args := [d1, d2, d3] }
  | _ => none }
def flowOrderRow : OpenClaim := { program := "ytbeckcilglhkbaa", sum := "d40b6a5eb19af0d8405fa8aed7e09976a0b6f646b5715064a3dde497b4103523", func := "guilloche/guillochelaw04.FlowOrder", spec := "flowOrder", unfollowed := true, recurses := true, apart := false }
def FlowOrderSaid : Prop := flowOrderRow.holds Try.pinned (OpenSpec.ofChange flowOrderSpec)

/-- ITS FALSE NEIGHBOUR: 'it returns false'. Refute it at one input. -/
def flowOrderWrong : ChangeSpec := { name := "flowOrder", fn := fun _ => fun
  | [d1, d2, d3] => { results := [.lit (.bool false)], args := [d1, d2, d3] }
  | _ => none }
def FlowOrderWrongFalsely : Prop := flowOrderRow.holds Try.pinned (OpenSpec.ofChange flowOrderWrong)

/-- 'guillochelaw04.FlowPairs': WHATEVER THE INPUT: true; the input reads as it did. -/
def flowPairsSpec : ChangeSpec := { name := "flowPairs", fn := fun _ => fun
  | [d1, d2, d3] => { results := [.lit (.bool true)], args := [d1, d2, d3] }
  | _ => none }
def flowPairsRow : OpenClaim := { program := "ytbeckcilglhkbaa", sum := "d40b6a5eb19af0d8405fa8aed7e09976a0b6f646b5715064a3dde497b4103523", func := "guilloche/guillochelaw04.FlowPairs", spec := "flowPairs", unfollowed := true, recurses := true, apart := false }
def FlowPairsSaid : Prop := flowPairsRow.holds Try.pinned (OpenSpec.ofChange flowPairsSpec)

/-- ITS FALSE NEIGHBOUR: 'it returns false'. Refute it at one input. -/
def flowPairsWrong : ChangeSpec := { name := "flowPairs", fn := fun _ => fun
  | [d1, d2, d3] => { results := [.lit (.bool false)], args := [d1, d2, d3] }
  | _ => none }
def FlowPairsWrongFalsely : Prop := flowPairsRow.holds Try.pinned (OpenSpec.ofChange flowPairsWrong)

/-- 'guillochelaw04.FlowMatches': WHATEVER THE INPUT: true; the input reads as it did. -/
def flowMatchesSpec : ChangeSpec := { name := "flowMatches", fn := fun _ => fun
  | [d1, d2, d3, d4, d5, d6] => { results := [.lit (.bool true)], args := [d1, d2, d3, d4, d5, d6] }
  | _ => none }
def flowMatchesRow : OpenClaim := { program := "ytbeckcilglhkbaa", sum := "d40b6a5eb19af0d8405fa8aed7e09976a0b6f646b5715064a3dde497b4103523", func := "guilloche/guillochelaw04.FlowMatches", spec := "flowMatches", unfollowed := true, recurses := true, apart := false }
def FlowMatchesSaid : Prop := flowMatchesRow.holds Try.pinned (OpenSpec.ofChange flowMatchesSpec)

/-- ITS FALSE NEIGHBOUR: 'it returns false'. Refute it at one input. -/
def flowMatchesWrong : ChangeSpec := { name := "flowMatches", fn := fun _ => fun
  | [d1, d2, d3, d4, d5, d6] => { results := [.lit (.bool false)], args := [d1, d2, d3, d4, d5, d6] }
  | _ => none }
def FlowMatchesWrongFalsely : Prop := flowMatchesRow.holds Try.pinned (OpenSpec.ofChange flowMatchesWrong)

/-- 'guillochelaw04.FlowChecks': WHATEVER THE INPUT: true; the input reads as it did. -/
def flowChecksSpec : ChangeSpec := { name := "flowChecks", fn := fun _ => fun
  | [d1, d2] => { results := [.lit (.bool true)], args := [d1, d2] }
  | _ => none }
def flowChecksRow : OpenClaim := { program := "ytbeckcilglhkbaa", sum := "d40b6a5eb19af0d8405fa8aed7e09976a0b6f646b5715064a3dde497b4103523", func := "guilloche/guillochelaw04.FlowChecks", spec := "flowChecks", unfollowed := true, recurses := true, apart := false }
def FlowChecksSaid : Prop := flowChecksRow.holds Try.pinned (OpenSpec.ofChange flowChecksSpec)

/-- ITS FALSE NEIGHBOUR: 'it returns false'. Refute it at one input. -/
def flowChecksWrong : ChangeSpec := { name := "flowChecks", fn := fun _ => fun
  | [d1, d2] => { results := [.lit (.bool false)], args := [d1, d2] }
  | _ => none }
def FlowChecksWrongFalsely : Prop := flowChecksRow.holds Try.pinned (OpenSpec.ofChange flowChecksWrong)

/-- 'guillochelaw04.FlowLeast': WHATEVER THE INPUT: true; the input reads as it did. -/
def flowLeastSpec : ChangeSpec := { name := "flowLeast", fn := fun _ => fun
  | [d1, d2] => { results := [.lit (.bool true)], args := [d1, d2] }
  | _ => none }
def flowLeastRow : OpenClaim := { program := "ytbeckcilglhkbaa", sum := "d40b6a5eb19af0d8405fa8aed7e09976a0b6f646b5715064a3dde497b4103523", func := "guilloche/guillochelaw04.FlowLeast", spec := "flowLeast", unfollowed := true, recurses := true, apart := false }
def FlowLeastSaid : Prop := flowLeastRow.holds Try.pinned (OpenSpec.ofChange flowLeastSpec)

/-- ITS FALSE NEIGHBOUR: 'it returns false'. Refute it at one input. -/
def flowLeastWrong : ChangeSpec := { name := "flowLeast", fn := fun _ => fun
  | [d1, d2] => { results := [.lit (.bool false)], args := [d1, d2] }
  | _ => none }
def FlowLeastWrongFalsely : Prop := flowLeastRow.holds Try.pinned (OpenSpec.ofChange flowLeastWrong)

/-- 'guillochelaw04.FlowTrust': WHATEVER THE INPUT: true; the input reads as it did. -/
def flowTrustSpec : ChangeSpec := { name := "flowTrust", fn := fun _ => fun
  | [d1, d2, d3] => { results := [.lit (.bool true)], args := [d1, d2, d3] }
  | _ => none }
def flowTrustRow : OpenClaim := { program := "ytbeckcilglhkbaa", sum := "d40b6a5eb19af0d8405fa8aed7e09976a0b6f646b5715064a3dde497b4103523", func := "guilloche/guillochelaw04.FlowTrust", spec := "flowTrust", unfollowed := true, recurses := true, apart := false }
def FlowTrustSaid : Prop := flowTrustRow.holds Try.pinned (OpenSpec.ofChange flowTrustSpec)

/-- ITS FALSE NEIGHBOUR: 'it returns false'. Refute it at one input. -/
def flowTrustWrong : ChangeSpec := { name := "flowTrust", fn := fun _ => fun
  | [d1, d2, d3] => { results := [.lit (.bool false)], args := [d1, d2, d3] }
  | _ => none }
def FlowTrustWrongFalsely : Prop := flowTrustRow.holds Try.pinned (OpenSpec.ofChange flowTrustWrong)

/- THE SECOND FORM. 'bulk': how many values and letters a reading holds, each counted each time it is reached (what is shared counts as often as it is met; a slice's spare places count too). A statement '..UptoSaid' is the law's where the arguments, and the package variables that the reading takes, are together of bulk at most 1048576: NARROWER than '..Said'. Prove '..Said' where nothing that the law and all that it calls make is longer than what came in: it says more and counts as full. Else prove '..UptoSaid'. A law counts once. -/
mutual
def uptoBulk {H : Type} : DataW H → Nat
  | .lit (.string bytes) => bytes.length + 1
  | .lit _ => 1
  | .nil => 1
  | .ptr d => uptoBulk d + 1
  | .slice elems spare => uptoBulkAll elems + uptoBulkAll spare + 1
  | .agg parts => uptoBulkAll parts + 1
  | .iface _ d => uptoBulk d + 1
  | .map entries => uptoBulkEntries entries + 1
  | .held _ => 1
def uptoBulkAll {H : Type} : List (DataW H) → Nat
  | [] => 0
  | d :: r => uptoBulk d + uptoBulkAll r
def uptoBulkEntries {H : Type} : List (Lit × DataW H) → Nat
  | [] => 0
  | x :: r => uptoBulkEntry x + uptoBulkEntries r
def uptoBulkEntry {H : Type} : Lit × DataW H → Nat
  | (.string bytes, d) => bytes.length + uptoBulk d + 1
  | (_, d) => uptoBulk d + 1
 end
def uptoSmall : (H : Type) → List (DataW H) → Bool := fun _ ds => decide (uptoBulkAll ds ≤ 1048576)
def OpenSpec.upto (s : _root_.Go.ChangeSpec) : _root_.Go.OpenSpec := { _root_.Go.OpenSpec.ofChange s with cond := some uptoSmall }

/-- 'guillochelaw04.FlowSolves', WHERE WHAT IT READS IS OF BULK AT MOST 1048576: true; the input reads as it did. -/
def flowSolvesUptoRow : OpenClaim := { program := "ytbeckcilglhkbaa", sum := "d40b6a5eb19af0d8405fa8aed7e09976a0b6f646b5715064a3dde497b4103523", func := "guilloche/guillochelaw04.FlowSolves", spec := "flowSolves", unfollowed := true, recurses := true, apart := false, narrowed := true }
def FlowSolvesUptoSaid : Prop := flowSolvesUptoRow.holds Try.pinned (OpenSpec.upto flowSolvesSpec)

/-- 'guillochelaw04.FlowCloses', WHERE WHAT IT READS IS OF BULK AT MOST 1048576: true; the input reads as it did. -/
def flowClosesUptoRow : OpenClaim := { program := "ytbeckcilglhkbaa", sum := "d40b6a5eb19af0d8405fa8aed7e09976a0b6f646b5715064a3dde497b4103523", func := "guilloche/guillochelaw04.FlowCloses", spec := "flowCloses", unfollowed := true, recurses := true, apart := false, narrowed := true }
def FlowClosesUptoSaid : Prop := flowClosesUptoRow.holds Try.pinned (OpenSpec.upto flowClosesSpec)

/-- 'guillochelaw04.FlowConvex', WHERE WHAT IT READS IS OF BULK AT MOST 1048576: true; the input reads as it did. -/
def flowConvexUptoRow : OpenClaim := { program := "ytbeckcilglhkbaa", sum := "d40b6a5eb19af0d8405fa8aed7e09976a0b6f646b5715064a3dde497b4103523", func := "guilloche/guillochelaw04.FlowConvex", spec := "flowConvex", unfollowed := true, recurses := true, apart := false, narrowed := true }
def FlowConvexUptoSaid : Prop := flowConvexUptoRow.holds Try.pinned (OpenSpec.upto flowConvexSpec)

/-- 'guillochelaw04.FlowClosures', WHERE WHAT IT READS IS OF BULK AT MOST 1048576: true; the input reads as it did. -/
def flowClosuresUptoRow : OpenClaim := { program := "ytbeckcilglhkbaa", sum := "d40b6a5eb19af0d8405fa8aed7e09976a0b6f646b5715064a3dde497b4103523", func := "guilloche/guillochelaw04.FlowClosures", spec := "flowClosures", unfollowed := true, recurses := true, apart := false, narrowed := true }
def FlowClosuresUptoSaid : Prop := flowClosuresUptoRow.holds Try.pinned (OpenSpec.upto flowClosuresSpec)

/-- 'guillochelaw04.FlowCuts', WHERE WHAT IT READS IS OF BULK AT MOST 1048576: true; the input reads as it did. -/
def flowCutsUptoRow : OpenClaim := { program := "ytbeckcilglhkbaa", sum := "d40b6a5eb19af0d8405fa8aed7e09976a0b6f646b5715064a3dde497b4103523", func := "guilloche/guillochelaw04.FlowCuts", spec := "flowCuts", unfollowed := true, recurses := true, apart := false, narrowed := true }
def FlowCutsUptoSaid : Prop := flowCutsUptoRow.holds Try.pinned (OpenSpec.upto flowCutsSpec)

/-- 'guillochelaw04.FlowWeak', WHERE WHAT IT READS IS OF BULK AT MOST 1048576: true; the input reads as it did. -/
def flowWeakUptoRow : OpenClaim := { program := "ytbeckcilglhkbaa", sum := "d40b6a5eb19af0d8405fa8aed7e09976a0b6f646b5715064a3dde497b4103523", func := "guilloche/guillochelaw04.FlowWeak", spec := "flowWeak", unfollowed := true, recurses := true, apart := false, narrowed := true }
def FlowWeakUptoSaid : Prop := flowWeakUptoRow.holds Try.pinned (OpenSpec.upto flowWeakSpec)

/-- 'guillochelaw04.FlowOrder', WHERE WHAT IT READS IS OF BULK AT MOST 1048576: true; the input reads as it did. -/
def flowOrderUptoRow : OpenClaim := { program := "ytbeckcilglhkbaa", sum := "d40b6a5eb19af0d8405fa8aed7e09976a0b6f646b5715064a3dde497b4103523", func := "guilloche/guillochelaw04.FlowOrder", spec := "flowOrder", unfollowed := true, recurses := true, apart := false, narrowed := true }
def FlowOrderUptoSaid : Prop := flowOrderUptoRow.holds Try.pinned (OpenSpec.upto flowOrderSpec)

/-- 'guillochelaw04.FlowPairs', WHERE WHAT IT READS IS OF BULK AT MOST 1048576: true; the input reads as it did. -/
def flowPairsUptoRow : OpenClaim := { program := "ytbeckcilglhkbaa", sum := "d40b6a5eb19af0d8405fa8aed7e09976a0b6f646b5715064a3dde497b4103523", func := "guilloche/guillochelaw04.FlowPairs", spec := "flowPairs", unfollowed := true, recurses := true, apart := false, narrowed := true }
def FlowPairsUptoSaid : Prop := flowPairsUptoRow.holds Try.pinned (OpenSpec.upto flowPairsSpec)

/-- 'guillochelaw04.FlowMatches', WHERE WHAT IT READS IS OF BULK AT MOST 1048576: true; the input reads as it did. -/
def flowMatchesUptoRow : OpenClaim := { program := "ytbeckcilglhkbaa", sum := "d40b6a5eb19af0d8405fa8aed7e09976a0b6f646b5715064a3dde497b4103523", func := "guilloche/guillochelaw04.FlowMatches", spec := "flowMatches", unfollowed := true, recurses := true, apart := false, narrowed := true }
def FlowMatchesUptoSaid : Prop := flowMatchesUptoRow.holds Try.pinned (OpenSpec.upto flowMatchesSpec)

/-- 'guillochelaw04.FlowChecks', WHERE WHAT IT READS IS OF BULK AT MOST 1048576: true; the input reads as it did. -/
def flowChecksUptoRow : OpenClaim := { program := "ytbeckcilglhkbaa", sum := "d40b6a5eb19af0d8405fa8aed7e09976a0b6f646b5715064a3dde497b4103523", func := "guilloche/guillochelaw04.FlowChecks", spec := "flowChecks", unfollowed := true, recurses := true, apart := false, narrowed := true }
def FlowChecksUptoSaid : Prop := flowChecksUptoRow.holds Try.pinned (OpenSpec.upto flowChecksSpec)

/-- 'guillochelaw04.FlowLeast', WHERE WHAT IT READS IS OF BULK AT MOST 1048576: true; the input reads as it did. -/
def flowLeastUptoRow : OpenClaim := { program := "ytbeckcilglhkbaa", sum := "d40b6a5eb19af0d8405fa8aed7e09976a0b6f646b5715064a3dde497b4103523", func := "guilloche/guillochelaw04.FlowLeast", spec := "flowLeast", unfollowed := true, recurses := true, apart := false, narrowed := true }
def FlowLeastUptoSaid : Prop := flowLeastUptoRow.holds Try.pinned (OpenSpec.upto flowLeastSpec)

/-- 'guillochelaw04.FlowTrust', WHERE WHAT IT READS IS OF BULK AT MOST 1048576: true; the input reads as it did. -/
def flowTrustUptoRow : OpenClaim := { program := "ytbeckcilglhkbaa", sum := "d40b6a5eb19af0d8405fa8aed7e09976a0b6f646b5715064a3dde497b4103523", func := "guilloche/guillochelaw04.FlowTrust", spec := "flowTrust", unfollowed := true, recurses := true, apart := false, narrowed := true }
def FlowTrustUptoSaid : Prop := flowTrustUptoRow.holds Try.pinned (OpenSpec.upto flowTrustSpec)

end Rows
end Go.Proofs.Ytbeckcilglhkbaa
