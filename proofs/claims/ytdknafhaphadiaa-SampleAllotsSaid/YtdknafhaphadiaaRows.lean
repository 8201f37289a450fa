/-
  No cell of these rows narrows 'for every input' (looked for: loops, veiled, ifaces, maps, wideKeys, modest, calm, conditions, laid).
  DERIVED. THE GIVEN ROWS OF THIS SEAT. 16 by the template 'for every input the law returns true; each argument reads behind the call as it read before'; 0 by the template 'total and deterministic' (their statements: YtdknafhaphadiaaTotals.lean).
  GIVEN WITH THE SEED: the statements are not yours to turn. If you find one false, say at which input.
  Laid BY PROGRAM, IN A SANDBOX (cutbox-rows.mjs): the forced cells as the released guide's own fill.sh prints them over the translation 425e0e8f0d005d58… (all of the seat's roots in one cut). By AI agents, Wed Nov 11 2026. No macro, syntax, notation, axiom, sorry.
-/
import Derived.Test.YtdknafhaphadiaaChecked
import GoSem.Claim
import GoSem.ClaimJoined
import GoSem.ClaimMapViews
import Derived.JoinedTies
import Derived.KernelRfl
namespace Go.Proofs.Ytdknafhaphadiaa
/- THE CELL 'sum', in the pinned program and in every row, IS THE sha256 OF THE DUMP (.gsa) THAT YtdknafhaphadiaaProg.lean LOADS. Nothing in Lean hashes anything: it is a label: what it is worth is what the hold of that sum in a sandbox is worth. -/
noncomputable def Try.pinned : Pinned := { name := "ytdknafhaphadiaa", sum := "425e0e8f0d005d5809bc3ea1addc15341bec813877dd04cc3bd81df2baf104d8", checked := Try.checked }
namespace Rows
def none {H : Type} : Left H := { results := [], args := [] }

/-- 'guillochelaw06.SampleAccepts': WHATEVER THE INPUT: true; the input reads as it did. -/
def sampleAcceptsSpec : ChangeSpec := { name := "sampleAccepts", fn := fun _ => fun
  | [d1, d2, d3, d4] => { results := [.lit (.bool true)], args := [d1, d2, d3, d4] }
  | _ => none }
def sampleAcceptsRow : OpenClaim := { program := "ytdknafhaphadiaa", sum := "425e0e8f0d005d5809bc3ea1addc15341bec813877dd04cc3bd81df2baf104d8", func := "guilloche/guillochelaw06.SampleAccepts", spec := "sampleAccepts", inPlace := ["internal/abi.NoEscape"], unfollowed := true, recurses := true, apart := false }
def SampleAcceptsSaid : Prop := sampleAcceptsRow.holds Try.pinned (OpenSpec.ofChange sampleAcceptsSpec)

/-- ITS FALSE NEIGHBOUR: 'it returns false'. Refute it at one input. -/
def sampleAcceptsWrong : ChangeSpec := { name := "sampleAccepts", fn := fun _ => fun
  | [d1, d2, d3, d4] => { results := [.lit (.bool false)], args := [d1, d2, d3, d4] }
  | _ => none }
def SampleAcceptsWrongFalsely : Prop := sampleAcceptsRow.holds Try.pinned (OpenSpec.ofChange sampleAcceptsWrong)

/-- 'guillochelaw06.SamplePlans': WHATEVER THE INPUT: true; the input reads as it did. -/
def samplePlansSpec : ChangeSpec := { name := "samplePlans", fn := fun _ => fun
  | [d1, d2, d3, d4, d5] => { results := [.lit (.bool true)], args := [d1, d2, d3, d4, d5] }
  | _ => none }
def samplePlansRow : OpenClaim := { program := "ytdknafhaphadiaa", sum := "425e0e8f0d005d5809bc3ea1addc15341bec813877dd04cc3bd81df2baf104d8", func := "guilloche/guillochelaw06.SamplePlans", spec := "samplePlans", inPlace := ["internal/abi.NoEscape"], unfollowed := true, recurses := true, apart := false }
def SamplePlansSaid : Prop := samplePlansRow.holds Try.pinned (OpenSpec.ofChange samplePlansSpec)

/-- ITS FALSE NEIGHBOUR: 'it returns false'. Refute it at one input. -/
def samplePlansWrong : ChangeSpec := { name := "samplePlans", fn := fun _ => fun
  | [d1, d2, d3, d4, d5] => { results := [.lit (.bool false)], args := [d1, d2, d3, d4, d5] }
  | _ => none }
def SamplePlansWrongFalsely : Prop := samplePlansRow.holds Try.pinned (OpenSpec.ofChange samplePlansWrong)

/-- 'guillochelaw06.SampleJudges': WHATEVER THE INPUT: true; the input reads as it did. -/
def sampleJudgesSpec : ChangeSpec := { name := "sampleJudges", fn := fun _ => fun
  | [d1, d2, d3] => { results := [.lit (.bool true)], args := [d1, d2, d3] }
  | _ => none }
def sampleJudgesRow : OpenClaim := { program := "ytdknafhaphadiaa", sum := "425e0e8f0d005d5809bc3ea1addc15341bec813877dd04cc3bd81df2baf104d8", func := "guilloche/guillochelaw06.SampleJudges", spec := "sampleJudges", inPlace := ["internal/abi.NoEscape"], unfollowed := true, recurses := true, apart := false }
def SampleJudgesSaid : Prop := sampleJudgesRow.holds Try.pinned (OpenSpec.ofChange sampleJudgesSpec)

/-- ITS FALSE NEIGHBOUR: 'it returns false'. Refute it at one input. -/
def sampleJudgesWrong : ChangeSpec := { name := "sampleJudges", fn := fun _ => fun
  | [d1, d2, d3] => { results := [.lit (.bool false)], args := [d1, d2, d3] }
  | _ => none }
def SampleJudgesWrongFalsely : Prop := sampleJudgesRow.holds Try.pinned (OpenSpec.ofChange sampleJudgesWrong)

/-- 'guillochelaw06.SampleVerdicts': WHATEVER THE INPUT: true; the input reads as it did. -/
def sampleVerdictsSpec : ChangeSpec := { name := "sampleVerdicts", fn := fun _ => fun
  | [d1, d2, d3] => { results := [.lit (.bool true)], args := [d1, d2, d3] }
  | _ => none }
def sampleVerdictsRow : OpenClaim := { program := "ytdknafhaphadiaa", sum := "425e0e8f0d005d5809bc3ea1addc15341bec813877dd04cc3bd81df2baf104d8", func := "guilloche/guillochelaw06.SampleVerdicts", spec := "sampleVerdicts", inPlace := ["internal/abi.NoEscape"], unfollowed := true, recurses := true, apart := false }
def SampleVerdictsSaid : Prop := sampleVerdictsRow.holds Try.pinned (OpenSpec.ofChange sampleVerdictsSpec)

/-- ITS FALSE NEIGHBOUR: 'it returns false'. Refute it at one input. -/
def sampleVerdictsWrong : ChangeSpec := { name := "sampleVerdicts", fn := fun _ => fun
  | [d1, d2, d3] => { results := [.lit (.bool false)], args := [d1, d2, d3] }
  | _ => none }
def SampleVerdictsWrongFalsely : Prop := sampleVerdictsRow.holds Try.pinned (OpenSpec.ofChange sampleVerdictsWrong)

/-- 'guillochelaw06.SampleGrows': WHATEVER THE INPUT: true; the input reads as it did. -/
def sampleGrowsSpec : ChangeSpec := { name := "sampleGrows", fn := fun _ => fun
  | [d1, d2, d3, d4] => { results := [.lit (.bool true)], args := [d1, d2, d3, d4] }
  | _ => none }
def sampleGrowsRow : OpenClaim := { program := "ytdknafhaphadiaa", sum := "425e0e8f0d005d5809bc3ea1addc15341bec813877dd04cc3bd81df2baf104d8", func := "guilloche/guillochelaw06.SampleGrows", spec := "sampleGrows", inPlace := ["internal/abi.NoEscape"], unfollowed := true, recurses := true, apart := false }
def SampleGrowsSaid : Prop := sampleGrowsRow.holds Try.pinned (OpenSpec.ofChange sampleGrowsSpec)

/-- ITS FALSE NEIGHBOUR: 'it returns false'. Refute it at one input. -/
def sampleGrowsWrong : ChangeSpec := { name := "sampleGrows", fn := fun _ => fun
  | [d1, d2, d3, d4] => { results := [.lit (.bool false)], args := [d1, d2, d3, d4] }
  | _ => none }
def SampleGrowsWrongFalsely : Prop := sampleGrowsRow.holds Try.pinned (OpenSpec.ofChange sampleGrowsWrong)

/-- 'guillochelaw06.SampleTurned': WHATEVER THE INPUT: true; the input reads as it did. -/
def sampleTurnedSpec : ChangeSpec := { name := "sampleTurned", fn := fun _ => fun
  | [d1, d2, d3, d4] => { results := [.lit (.bool true)], args := [d1, d2, d3, d4] }
  | _ => none }
def sampleTurnedRow : OpenClaim := { program := "ytdknafhaphadiaa", sum := "425e0e8f0d005d5809bc3ea1addc15341bec813877dd04cc3bd81df2baf104d8", func := "guilloche/guillochelaw06.SampleTurned", spec := "sampleTurned", inPlace := ["internal/abi.NoEscape"], unfollowed := true, recurses := true, apart := false }
def SampleTurnedSaid : Prop := sampleTurnedRow.holds Try.pinned (OpenSpec.ofChange sampleTurnedSpec)

/-- ITS FALSE NEIGHBOUR: 'it returns false'. Refute it at one input. -/
def sampleTurnedWrong : ChangeSpec := { name := "sampleTurned", fn := fun _ => fun
  | [d1, d2, d3, d4] => { results := [.lit (.bool false)], args := [d1, d2, d3, d4] }
  | _ => none }
def SampleTurnedWrongFalsely : Prop := sampleTurnedRow.holds Try.pinned (OpenSpec.ofChange sampleTurnedWrong)

/-- 'guillochelaw06.SampleSmaller': WHATEVER THE INPUT: true; the input reads as it did. -/
def sampleSmallerSpec : ChangeSpec := { name := "sampleSmaller", fn := fun _ => fun
  | [d1, d2, d3, d4, d5, d6, d7] => { results := [.lit (.bool true)], args := [d1, d2, d3, d4, d5, d6, d7] }
  | _ => none }
def sampleSmallerRow : OpenClaim := { program := "ytdknafhaphadiaa", sum := "425e0e8f0d005d5809bc3ea1addc15341bec813877dd04cc3bd81df2baf104d8", func := "guilloche/guillochelaw06.SampleSmaller", spec := "sampleSmaller", inPlace := ["internal/abi.NoEscape"], unfollowed := true, recurses := true, apart := false }
def SampleSmallerSaid : Prop := sampleSmallerRow.holds Try.pinned (OpenSpec.ofChange sampleSmallerSpec)

/-- ITS FALSE NEIGHBOUR: 'it returns false'. Refute it at one input. -/
def sampleSmallerWrong : ChangeSpec := { name := "sampleSmaller", fn := fun _ => fun
  | [d1, d2, d3, d4, d5, d6, d7] => { results := [.lit (.bool false)], args := [d1, d2, d3, d4, d5, d6, d7] }
  | _ => none }
def SampleSmallerWrongFalsely : Prop := sampleSmallerRow.holds Try.pinned (OpenSpec.ofChange sampleSmallerWrong)

/-- 'guillochelaw06.SampleBounds': WHATEVER THE INPUT: true; the input reads as it did. -/
def sampleBoundsSpec : ChangeSpec := { name := "sampleBounds", fn := fun _ => fun
  | [d1, d2, d3, d4] => { results := [.lit (.bool true)], args := [d1, d2, d3, d4] }
  | _ => none }
def sampleBoundsRow : OpenClaim := { program := "ytdknafhaphadiaa", sum := "425e0e8f0d005d5809bc3ea1addc15341bec813877dd04cc3bd81df2baf104d8", func := "guilloche/guillochelaw06.SampleBounds", spec := "sampleBounds", inPlace := ["internal/abi.NoEscape"], unfollowed := true, recurses := true, apart := false }
def SampleBoundsSaid : Prop := sampleBoundsRow.holds Try.pinned (OpenSpec.ofChange sampleBoundsSpec)

/-- ITS FALSE NEIGHBOUR: 'it returns false'. Refute it at one input. -/
def sampleBoundsWrong : ChangeSpec := { name := "sampleBounds", fn := fun _ => fun
  | [d1, d2, d3, d4] => { results := [.lit (.bool false)], args := [d1, d2, d3, d4] }
  | _ => none }
def SampleBoundsWrongFalsely : Prop := sampleBoundsRow.holds Try.pinned (OpenSpec.ofChange sampleBoundsWrong)

/-- 'guillochelaw06.SampleExplains': WHATEVER THE INPUT: true; the input reads as it did. -/
def sampleExplainsSpec : ChangeSpec := { name := "sampleExplains", fn := fun _ => fun
  | [d1, d2, d3, d4, d5] => { results := [.lit (.bool true)], args := [d1, d2, d3, d4, d5] }
  | _ => none }
def sampleExplainsRow : OpenClaim := { program := "ytdknafhaphadiaa", sum := "425e0e8f0d005d5809bc3ea1addc15341bec813877dd04cc3bd81df2baf104d8", func := "guilloche/guillochelaw06.SampleExplains", spec := "sampleExplains", inPlace := ["internal/abi.NoEscape"], unfollowed := true, recurses := true, apart := false }
def SampleExplainsSaid : Prop := sampleExplainsRow.holds Try.pinned (OpenSpec.ofChange sampleExplainsSpec)

/-- ITS FALSE NEIGHBOUR: 'it returns false'. Refute it at one input. -/
def sampleExplainsWrong : ChangeSpec := { name := "sampleExplains", fn := fun _ => fun
  | [d1, d2, d3, d4, d5] => { results := [.lit (.bool false)], args := [d1, d2, d3, d4, d5] }
  | _ => none }
def SampleExplainsWrongFalsely : Prop := sampleExplainsRow.holds Try.pinned (OpenSpec.ofChange sampleExplainsWrong)

/-- 'guillochelaw06.SampleFirst': WHATEVER THE INPUT: true; the input reads as it did. -/
def sampleFirstSpec : ChangeSpec := { name := "sampleFirst", fn := fun _ => fun
  | [d1, d2, d3, d4] => { results := [.lit (.bool true)], args := [d1, d2, d3, d4] }
  | _ => none }
def sampleFirstRow : OpenClaim := { program := "ytdknafhaphadiaa", sum := "425e0e8f0d005d5809bc3ea1addc15341bec813877dd04cc3bd81df2baf104d8", func := "guilloche/guillochelaw06.SampleFirst", spec := "sampleFirst", inPlace := ["internal/abi.NoEscape"], unfollowed := true, recurses := true, apart := false }
def SampleFirstSaid : Prop := sampleFirstRow.holds Try.pinned (OpenSpec.ofChange sampleFirstSpec)

/-- ITS FALSE NEIGHBOUR: 'it returns false'. Refute it at one input. -/
def sampleFirstWrong : ChangeSpec := { name := "sampleFirst", fn := fun _ => fun
  | [d1, d2, d3, d4] => { results := [.lit (.bool false)], args := [d1, d2, d3, d4] }
  | _ => none }
def SampleFirstWrongFalsely : Prop := sampleFirstRow.holds Try.pinned (OpenSpec.ofChange sampleFirstWrong)

/-- 'guillochelaw06.SampleExpects': WHATEVER THE INPUT: true; the input reads as it did. -/
def sampleExpectsSpec : ChangeSpec := { name := "sampleExpects", fn := fun _ => fun
  | [d1, d2, d3, d4] => { results := [.lit (.bool true)], args := [d1, d2, d3, d4] }
  | _ => none }
def sampleExpectsRow : OpenClaim := { program := "ytdknafhaphadiaa", sum := "425e0e8f0d005d5809bc3ea1addc15341bec813877dd04cc3bd81df2baf104d8", func := "guilloche/guillochelaw06.SampleExpects", spec := "sampleExpects", inPlace := ["internal/abi.NoEscape"], unfollowed := true, recurses := true, apart := false }
def SampleExpectsSaid : Prop := sampleExpectsRow.holds Try.pinned (OpenSpec.ofChange sampleExpectsSpec)

/-- ITS FALSE NEIGHBOUR: 'it returns false'. Refute it at one input. -/
def sampleExpectsWrong : ChangeSpec := { name := "sampleExpects", fn := fun _ => fun
  | [d1, d2, d3, d4] => { results := [.lit (.bool false)], args := [d1, d2, d3, d4] }
  | _ => none }
def SampleExpectsWrongFalsely : Prop := sampleExpectsRow.holds Try.pinned (OpenSpec.ofChange sampleExpectsWrong)

/-- 'guillochelaw06.SampleNext': WHATEVER THE INPUT: true; the input reads as it did. -/
def sampleNextSpec : ChangeSpec := { name := "sampleNext", fn := fun _ => fun
  | [d1, d2, d3, d4] => { results := [.lit (.bool true)], args := [d1, d2, d3, d4] }
  | _ => none }
def sampleNextRow : OpenClaim := { program := "ytdknafhaphadiaa", sum := "425e0e8f0d005d5809bc3ea1addc15341bec813877dd04cc3bd81df2baf104d8", func := "guilloche/guillochelaw06.SampleNext", spec := "sampleNext", inPlace := ["internal/abi.NoEscape"], unfollowed := true, recurses := true, apart := false }
def SampleNextSaid : Prop := sampleNextRow.holds Try.pinned (OpenSpec.ofChange sampleNextSpec)

/-- ITS FALSE NEIGHBOUR: 'it returns false'. Refute it at one input. -/
def sampleNextWrong : ChangeSpec := { name := "sampleNext", fn := fun _ => fun
  | [d1, d2, d3, d4] => { results := [.lit (.bool false)], args := [d1, d2, d3, d4] }
  | _ => none }
def SampleNextWrongFalsely : Prop := sampleNextRow.holds Try.pinned (OpenSpec.ofChange sampleNextWrong)

/-- 'guillochelaw06.SampleAllots': WHATEVER THE INPUT: true; the input reads as it did. -/
def sampleAllotsSpec : ChangeSpec := { name := "sampleAllots", fn := fun _ => fun
  | [d1, d2] => { results := [.lit (.bool true)], args := [d1, d2] }
  | _ => none }
def sampleAllotsRow : OpenClaim := { program := "ytdknafhaphadiaa", sum := "425e0e8f0d005d5809bc3ea1addc15341bec813877dd04cc3bd81df2baf104d8", func := "guilloche/guillochelaw06.SampleAllots", spec := "sampleAllots", inPlace := ["internal/abi.NoEscape"], unfollowed := true, recurses := true, named := ["math/bits.divideError", "math/bits.overflowError"], apart := false }
def SampleAllotsSaid : Prop := sampleAllotsRow.holds Try.pinned (OpenSpec.ofChange sampleAllotsSpec)

/-- ITS FALSE NEIGHBOUR: 'it returns false'. Refute it at one input. -/
def sampleAllotsWrong : ChangeSpec := { name := "sampleAllots", fn := fun _ => fun
  | [d1, d2] => { results := [.lit (.bool false)], args := [d1, d2] }
  | _ => none }
def SampleAllotsWrongFalsely : Prop := sampleAllotsRow.holds Try.pinned (OpenSpec.ofChange sampleAllotsWrong)

/-- 'guillochelaw06.SampleShares': WHATEVER THE INPUT: true; the input reads as it did. -/
def sampleSharesSpec : ChangeSpec := { name := "sampleShares", fn := fun _ => fun
  | [d1, d2] => { results := [.lit (.bool true)], args := [d1, d2] }
  | _ => none }
def sampleSharesRow : OpenClaim := { program := "ytdknafhaphadiaa", sum := "425e0e8f0d005d5809bc3ea1addc15341bec813877dd04cc3bd81df2baf104d8", func := "guilloche/guillochelaw06.SampleShares", spec := "sampleShares", inPlace := ["internal/abi.NoEscape"], unfollowed := true, recurses := true, named := ["math/bits.divideError", "math/bits.overflowError"], apart := false }
def SampleSharesSaid : Prop := sampleSharesRow.holds Try.pinned (OpenSpec.ofChange sampleSharesSpec)

/-- ITS FALSE NEIGHBOUR: 'it returns false'. Refute it at one input. -/
def sampleSharesWrong : ChangeSpec := { name := "sampleShares", fn := fun _ => fun
  | [d1, d2] => { results := [.lit (.bool false)], args := [d1, d2] }
  | _ => none }
def SampleSharesWrongFalsely : Prop := sampleSharesRow.holds Try.pinned (OpenSpec.ofChange sampleSharesWrong)

/-- 'guillochelaw06.SampleDraws': WHATEVER THE INPUT: true; the input reads as it did. -/
def sampleDrawsSpec : ChangeSpec := { name := "sampleDraws", fn := fun _ => fun
  | [d1, d2, d3] => { results := [.lit (.bool true)], args := [d1, d2, d3] }
  | _ => none }
def sampleDrawsRow : OpenClaim := { program := "ytdknafhaphadiaa", sum := "425e0e8f0d005d5809bc3ea1addc15341bec813877dd04cc3bd81df2baf104d8", func := "guilloche/guillochelaw06.SampleDraws", spec := "sampleDraws", inPlace := ["internal/abi.NoEscape"], unfollowed := true, recurses := true, apart := false }
def SampleDrawsSaid : Prop := sampleDrawsRow.holds Try.pinned (OpenSpec.ofChange sampleDrawsSpec)

/-- ITS FALSE NEIGHBOUR: 'it returns false'. Refute it at one input. -/
def sampleDrawsWrong : ChangeSpec := { name := "sampleDraws", fn := fun _ => fun
  | [d1, d2, d3] => { results := [.lit (.bool false)], args := [d1, d2, d3] }
  | _ => none }
def SampleDrawsWrongFalsely : Prop := sampleDrawsRow.holds Try.pinned (OpenSpec.ofChange sampleDrawsWrong)

/-- 'guillochelaw06.SampleOdd': WHATEVER THE INPUT: true; the input reads as it did. -/
def sampleOddSpec : ChangeSpec := { name := "sampleOdd", fn := fun _ => fun
  | [d1, d2, d3] => { results := [.lit (.bool true)], args := [d1, d2, d3] }
  | _ => none }
def sampleOddRow : OpenClaim := { program := "ytdknafhaphadiaa", sum := "425e0e8f0d005d5809bc3ea1addc15341bec813877dd04cc3bd81df2baf104d8", func := "guilloche/guillochelaw06.SampleOdd", spec := "sampleOdd", inPlace := ["internal/abi.NoEscape"], unfollowed := true, recurses := true, apart := false }
def SampleOddSaid : Prop := sampleOddRow.holds Try.pinned (OpenSpec.ofChange sampleOddSpec)

/-- ITS FALSE NEIGHBOUR: 'it returns false'. Refute it at one input. -/
def sampleOddWrong : ChangeSpec := { name := "sampleOdd", fn := fun _ => fun
  | [d1, d2, d3] => { results := [.lit (.bool false)], args := [d1, d2, d3] }
  | _ => none }
def SampleOddWrongFalsely : Prop := sampleOddRow.holds Try.pinned (OpenSpec.ofChange sampleOddWrong)

/- THE SECOND FORM. 'bulk': how many values and letters a reading holds, each counted each time it is reached (what is shared counts as often as it is met; a slice's spare places count too). A statement '..UptoSaid' is the law's where the arguments, and the package variables that the reading takes, are together of bulk at most 1048576: NARROWER than '..Said'. Prove '..Said' where nothing that the law and all that it calls make is longer than what came in: it says more and counts as full. Else prove '..UptoSaid'. A law counts once. -/
mutual
def uptoBulk {H : Type} : DataW H → Nat
  | .lit (.string bytes) => bytes.length + 1
  | .lit _ => 1
  | .nil => 1
  | .ptr d => uptoBulk d + 1
  | .slice elems spare => uptoBulkAll elems + uptoBulkAll spare + 1
  | .agg parts => uptoBulkAll parts + 1
  | .iface _ d => uptoBulk d + 1
  | .map entries => uptoBulkEntries entries + 1
  | .held _ => 1
def uptoBulkAll {H : Type} : List (DataW H) → Nat
  | [] => 0
  | d :: r => uptoBulk d + uptoBulkAll r
def uptoBulkEntries {H : Type} : List (Lit × DataW H) → Nat
  | [] => 0
  | x :: r => uptoBulkEntry x + uptoBulkEntries r
def uptoBulkEntry {H : Type} : Lit × DataW H → Nat
  | (.string bytes, d) => bytes.length + uptoBulk d + 1
  | (_, d) => uptoBulk d + 1
 end
def uptoSmall : (H : Type) → List (DataW H) → Bool := fun _ ds => decide (uptoBulkAll ds ≤ 1048576)
def OpenSpec.upto (s : _root_.Go.ChangeSpec) : _root_.Go.OpenSpec := { _root_.Go.OpenSpec.ofChange s with cond := some uptoSmall }

/-- 'guillochelaw06.SampleAccepts', WHERE WHAT IT READS IS OF BULK AT MOST 1048576: true; the input reads as it did. -/
def sampleAcceptsUptoRow : OpenClaim := { program := "ytdknafhaphadiaa", sum := "425e0e8f0d005d5809bc3ea1addc15341bec813877dd04cc3bd81df2baf104d8", func := "guilloche/guillochelaw06.SampleAccepts", spec := "sampleAccepts", inPlace := ["internal/abi.NoEscape"], unfollowed := true, recurses := true, apart := false, narrowed := true }
def SampleAcceptsUptoSaid : Prop := sampleAcceptsUptoRow.holds Try.pinned (OpenSpec.upto sampleAcceptsSpec)

/-- 'guillochelaw06.SamplePlans', WHERE WHAT IT READS IS OF BULK AT MOST 1048576: true; the input reads as it did. -/
def samplePlansUptoRow : OpenClaim := { program := "ytdknafhaphadiaa", sum := "425e0e8f0d005d5809bc3ea1addc15341bec813877dd04cc3bd81df2baf104d8", func := "guilloche/guillochelaw06.SamplePlans", spec := "samplePlans", inPlace := ["internal/abi.NoEscape"], unfollowed := true, recurses := true, apart := false, narrowed := true }
def SamplePlansUptoSaid : Prop := samplePlansUptoRow.holds Try.pinned (OpenSpec.upto samplePlansSpec)

/-- 'guillochelaw06.SampleJudges', WHERE WHAT IT READS IS OF BULK AT MOST 1048576: true; the input reads as it did. -/
def sampleJudgesUptoRow : OpenClaim := { program := "ytdknafhaphadiaa", sum := "425e0e8f0d005d5809bc3ea1addc15341bec813877dd04cc3bd81df2baf104d8", func := "guilloche/guillochelaw06.SampleJudges", spec := "sampleJudges", inPlace := ["internal/abi.NoEscape"], unfollowed := true, recurses := true, apart := false, narrowed := true }
def SampleJudgesUptoSaid : Prop := sampleJudgesUptoRow.holds Try.pinned (OpenSpec.upto sampleJudgesSpec)

/-- 'guillochelaw06.SampleVerdicts', WHERE WHAT IT READS IS OF BULK AT MOST 1048576: true; the input reads as it did. -/
def sampleVerdictsUptoRow : OpenClaim := { program := "ytdknafhaphadiaa", sum := "425e0e8f0d005d5809bc3ea1addc15341bec813877dd04cc3bd81df2baf104d8", func := "guilloche/guillochelaw06.SampleVerdicts", spec := "sampleVerdicts", inPlace := ["internal/abi.NoEscape"], unfollowed := true, recurses := true, apart := false, narrowed := true }
def SampleVerdictsUptoSaid : Prop := sampleVerdictsUptoRow.holds Try.pinned (OpenSpec.upto sampleVerdictsSpec)

/-- 'guillochelaw06.SampleGrows', WHERE WHAT IT READS IS OF BULK AT MOST 1048576: true; the input reads as it did. -/
def sampleGrowsUptoRow : OpenClaim := { program := "ytdknafhaphadiaa", sum := "425e0e8f0d005d5809bc3ea1addc15341bec813877dd04cc3bd81df2baf104d8", func := "guilloche/guillochelaw06.SampleGrows", spec := "sampleGrows", inPlace := ["internal/abi.NoEscape"], unfollowed := true, recurses := true, apart := false, narrowed := true }
def SampleGrowsUptoSaid : Prop := sampleGrowsUptoRow.holds Try.pinned (OpenSpec.upto sampleGrowsSpec)

/-- 'guillochelaw06.SampleTurned', WHERE WHAT IT READS IS OF BULK AT MOST 1048576: true; the input reads as it did. -/
def sampleTurnedUptoRow : OpenClaim := { program := "ytdknafhaphadiaa", sum := "425e0e8f0d005d5809bc3ea1addc15341bec813877dd04cc3bd81df2baf104d8", func := "guilloche/guillochelaw06.SampleTurned", spec := "sampleTurned", inPlace := ["internal/abi.NoEscape"], unfollowed := true, recurses := true, apart := false, narrowed := true }
def SampleTurnedUptoSaid : Prop := sampleTurnedUptoRow.holds Try.pinned (OpenSpec.upto sampleTurnedSpec)

/-- 'guillochelaw06.SampleSmaller', WHERE WHAT IT READS IS OF BULK AT MOST 1048576: true; the input reads as it did. -/
def sampleSmallerUptoRow : OpenClaim := { program := "ytdknafhaphadiaa", sum := "425e0e8f0d005d5809bc3ea1addc15341bec813877dd04cc3bd81df2baf104d8", func := "guilloche/guillochelaw06.SampleSmaller", spec := "sampleSmaller", inPlace := ["internal/abi.NoEscape"], unfollowed := true, recurses := true, apart := false, narrowed := true }
def SampleSmallerUptoSaid : Prop := sampleSmallerUptoRow.holds Try.pinned (OpenSpec.upto sampleSmallerSpec)

/-- 'guillochelaw06.SampleBounds', WHERE WHAT IT READS IS OF BULK AT MOST 1048576: true; the input reads as it did. -/
def sampleBoundsUptoRow : OpenClaim := { program := "ytdknafhaphadiaa", sum := "425e0e8f0d005d5809bc3ea1addc15341bec813877dd04cc3bd81df2baf104d8", func := "guilloche/guillochelaw06.SampleBounds", spec := "sampleBounds", inPlace := ["internal/abi.NoEscape"], unfollowed := true, recurses := true, apart := false, narrowed := true }
def SampleBoundsUptoSaid : Prop := sampleBoundsUptoRow.holds Try.pinned (OpenSpec.upto sampleBoundsSpec)

/-- 'guillochelaw06.SampleExplains', WHERE WHAT IT READS IS OF BULK AT MOST 1048576: true; the input reads as it did. -/
def sampleExplainsUptoRow : OpenClaim := { program := "ytdknafhaphadiaa", sum := "425e0e8f0d005d5809bc3ea1addc15341bec813877dd04cc3bd81df2baf104d8", func := "guilloche/guillochelaw06.SampleExplains", spec := "sampleExplains", inPlace := ["internal/abi.NoEscape"], unfollowed := true, recurses := true, apart := false, narrowed := true }
def SampleExplainsUptoSaid : Prop := sampleExplainsUptoRow.holds Try.pinned (OpenSpec.upto sampleExplainsSpec)

/-- 'guillochelaw06.SampleFirst', WHERE WHAT IT READS IS OF BULK AT MOST 1048576: true; the input reads as it did. -/
def sampleFirstUptoRow : OpenClaim := { program := "ytdknafhaphadiaa", sum := "425e0e8f0d005d5809bc3ea1addc15341bec813877dd04cc3bd81df2baf104d8", func := "guilloche/guillochelaw06.SampleFirst", spec := "sampleFirst", inPlace := ["internal/abi.NoEscape"], unfollowed := true, recurses := true, apart := false, narrowed := true }
def SampleFirstUptoSaid : Prop := sampleFirstUptoRow.holds Try.pinned (OpenSpec.upto sampleFirstSpec)

/-- 'guillochelaw06.SampleExpects', WHERE WHAT IT READS IS OF BULK AT MOST 1048576: true; the input reads as it did. -/
def sampleExpectsUptoRow : OpenClaim := { program := "ytdknafhaphadiaa", sum := "425e0e8f0d005d5809bc3ea1addc15341bec813877dd04cc3bd81df2baf104d8", func := "guilloche/guillochelaw06.SampleExpects", spec := "sampleExpects", inPlace := ["internal/abi.NoEscape"], unfollowed := true, recurses := true, apart := false, narrowed := true }
def SampleExpectsUptoSaid : Prop := sampleExpectsUptoRow.holds Try.pinned (OpenSpec.upto sampleExpectsSpec)

/-- 'guillochelaw06.SampleNext', WHERE WHAT IT READS IS OF BULK AT MOST 1048576: true; the input reads as it did. -/
def sampleNextUptoRow : OpenClaim := { program := "ytdknafhaphadiaa", sum := "425e0e8f0d005d5809bc3ea1addc15341bec813877dd04cc3bd81df2baf104d8", func := "guilloche/guillochelaw06.SampleNext", spec := "sampleNext", inPlace := ["internal/abi.NoEscape"], unfollowed := true, recurses := true, apart := false, narrowed := true }
def SampleNextUptoSaid : Prop := sampleNextUptoRow.holds Try.pinned (OpenSpec.upto sampleNextSpec)

/-- 'guillochelaw06.SampleAllots', WHERE WHAT IT READS IS OF BULK AT MOST 1048576: true; the input reads as it did. -/
def sampleAllotsUptoRow : OpenClaim := { program := "ytdknafhaphadiaa", sum := "425e0e8f0d005d5809bc3ea1addc15341bec813877dd04cc3bd81df2baf104d8", func := "guilloche/guillochelaw06.SampleAllots", spec := "sampleAllots", inPlace := ["internal/abi.NoEscape"], unfollowed := true, recurses := true, named := ["math/bits.divideError", "math/bits.overflowError"], apart := false, narrowed := true }
def SampleAllotsUptoSaid : Prop := sampleAllotsUptoRow.holds Try.pinned (OpenSpec.upto sampleAllotsSpec)

/-- 'guillochelaw06.SampleShares', WHERE WHAT IT READS IS OF BULK AT MOST 1048576: true; the input reads as it did. -/
def sampleSharesUptoRow : OpenClaim := { program := "ytdknafhaphadiaa", sum := "425e0e8f0d005d5809bc3ea1addc15341bec813877dd04cc3bd81df2baf104d8", func := "guilloche/guillochelaw06.SampleShares", spec := "sampleShares", inPlace := ["internal/abi.NoEscape"], unfollowed := true, recurses := true, named := ["math/bits.divideError", "math/bits.overflowError"], apart := false, narrowed := true }
def SampleSharesUptoSaid : Prop := sampleSharesUptoRow.holds Try.pinned (OpenSpec.upto sampleSharesSpec)

/-- 'guillochelaw06.SampleDraws', WHERE WHAT IT READS IS OF BULK AT MOST 1048576: true; the input reads as it did. -/
def sampleDrawsUptoRow : OpenClaim := { program := "ytdknafhaphadiaa", sum := "425e0e8f0d005d5809bc3ea1addc15341bec813877dd04cc3bd81df2baf104d8", func := "guilloche/guillochelaw06.SampleDraws", spec := "sampleDraws", inPlace := ["internal/abi.NoEscape"], unfollowed := true, recurses := true, apart := false, narrowed := true }
def SampleDrawsUptoSaid : Prop := sampleDrawsUptoRow.holds Try.pinned (OpenSpec.upto sampleDrawsSpec)

/-- 'guillochelaw06.SampleOdd', WHERE WHAT IT READS IS OF BULK AT MOST 1048576: true; the input reads as it did. -/
def sampleOddUptoRow : OpenClaim := { program := "ytdknafhaphadiaa", sum := "425e0e8f0d005d5809bc3ea1addc15341bec813877dd04cc3bd81df2baf104d8", func := "guilloche/guillochelaw06.SampleOdd", spec := "sampleOdd", inPlace := ["internal/abi.NoEscape"], unfollowed := true, recurses := true, apart := false, narrowed := true }
def SampleOddUptoSaid : Prop := sampleOddUptoRow.holds Try.pinned (OpenSpec.upto sampleOddSpec)

end Rows
end Go.Proofs.Ytdknafhaphadiaa
