/-
  No cell of these rows narrows 'for every input' (looked for: loops, veiled, ifaces, maps, wideKeys, modest, calm, conditions, laid).
  DERIVED. THE GIVEN ROWS OF THIS SEAT. 10 by the template 'for every input the law returns true; each argument reads behind the call as it read before'; 0 by the template 'total and deterministic' (their statements: YtcbmmldkpicaiaaGreatTotals.lean).
  GIVEN WITH THE SEED: the statements are not yours to turn. If you find one false, say at which input.
  Laid BY PROGRAM, IN A SANDBOX (cutbox-rows.mjs): the forced cells as the released guide's own fill.sh prints them over the translation 121db7c7864fce16… (all of the seat's roots in one cut). By AI agents, Wed Nov 11 2026. No macro, syntax, notation, axiom, sorry.
-/
import Derived.Test.YtcbmmldkpicaiaaGreatChecked
import GoSem.Claim
import GoSem.ClaimJoined
import GoSem.ClaimMapViews
import Derived.JoinedTies
import Derived.KernelRfl
namespace Go.Proofs.YtcbmmldkpicaiaaGreat
/- THE CELL 'sum', in the pinned program and in every row, IS THE sha256 OF THE DUMP (.gsa) THAT YtcbmmldkpicaiaaGreatProg.lean LOADS. Nothing in Lean hashes anything: it is a label: what it is worth is what the hold of that sum in a sandbox is worth. -/
noncomputable def Tryz.pinned : Pinned := { name := "ytcbmmldkpicaiaagreat", sum := "121db7c7864fce16c9cf112c3f780344c12ccf5f6bc28508f37d1af6c861ea5d", checked := Tryz.checked }
namespace Rows
def none {H : Type} : Left H := { results := [], args := [] }

/-- 'guillochelaw08.ClerkRoom': WHATEVER THE INPUT: true; the input reads as it did. -/
def clerkRoomSpec : ChangeSpec := { name := "clerkRoom", fn := fun _ => fun
  | [d1, d2] => { results := [.lit (.bool true)], args := [d1, d2] }
  | _ => none }
def clerkRoomRow : OpenClaim := { program := "ytcbmmldkpicaiaagreat", sum := "121db7c7864fce16c9cf112c3f780344c12ccf5f6bc28508f37d1af6c861ea5d", func := "guilloche/guillochelaw08.ClerkRoom", spec := "clerkRoom", unfollowed := true, recurses := true, apart := false }
def ClerkRoomSaid : Prop := clerkRoomRow.holds Tryz.pinned (OpenSpec.ofChange clerkRoomSpec)

/-- ITS FALSE NEIGHBOUR: 'it returns false'. Refute it at one input. -/
def clerkRoomWrong : ChangeSpec := { name := "clerkRoom", fn := fun _ => fun
  | [d1, d2] => { results := [.lit (.bool false)], args := [d1, d2] }
  | _ => none }
def ClerkRoomWrongFalsely : Prop := clerkRoomRow.holds Tryz.pinned (OpenSpec.ofChange clerkRoomWrong)

/-- 'guillochelaw08.ClerkPlays': WHATEVER THE INPUT: true; the input reads as it did. -/
def clerkPlaysSpec : ChangeSpec := { name := "clerkPlays", fn := fun _ => fun
  | [d1, d2] => { results := [.lit (.bool true)], args := [d1, d2] }
  | _ => none }
def clerkPlaysRow : OpenClaim := { program := "ytcbmmldkpicaiaagreat", sum := "121db7c7864fce16c9cf112c3f780344c12ccf5f6bc28508f37d1af6c861ea5d", func := "guilloche/guillochelaw08.ClerkPlays", spec := "clerkPlays", unfollowed := true, recurses := true, apart := false }
def ClerkPlaysSaid : Prop := clerkPlaysRow.holds Tryz.pinned (OpenSpec.ofChange clerkPlaysSpec)

/-- ITS FALSE NEIGHBOUR: 'it returns false'. Refute it at one input. -/
def clerkPlaysWrong : ChangeSpec := { name := "clerkPlays", fn := fun _ => fun
  | [d1, d2] => { results := [.lit (.bool false)], args := [d1, d2] }
  | _ => none }
def ClerkPlaysWrongFalsely : Prop := clerkPlaysRow.holds Tryz.pinned (OpenSpec.ofChange clerkPlaysWrong)

/-- 'guillochelaw08.ClerkLocks': WHATEVER THE INPUT: true; the input reads as it did. -/
def clerkLocksSpec : ChangeSpec := { name := "clerkLocks", fn := fun _ => fun
  | [d1, d2, d3] => { results := [.lit (.bool true)], args := [d1, d2, d3] }
  | _ => none }
def clerkLocksRow : OpenClaim := { program := "ytcbmmldkpicaiaagreat", sum := "121db7c7864fce16c9cf112c3f780344c12ccf5f6bc28508f37d1af6c861ea5d", func := "guilloche/guillochelaw08.ClerkLocks", spec := "clerkLocks", unfollowed := true, recurses := true, apart := false }
def ClerkLocksSaid : Prop := clerkLocksRow.holds Tryz.pinned (OpenSpec.ofChange clerkLocksSpec)

/-- ITS FALSE NEIGHBOUR: 'it returns false'. Refute it at one input. -/
def clerkLocksWrong : ChangeSpec := { name := "clerkLocks", fn := fun _ => fun
  | [d1, d2, d3] => { results := [.lit (.bool false)], args := [d1, d2, d3] }
  | _ => none }
def ClerkLocksWrongFalsely : Prop := clerkLocksRow.holds Tryz.pinned (OpenSpec.ofChange clerkLocksWrong)

/-- 'guillochelaw08.ClerkFull': WHATEVER THE INPUT: true; the input reads as it did. -/
def clerkFullSpec : ChangeSpec := { name := "clerkFull", fn := fun _ => fun
  | [d] => { results := [.lit (.bool true)], args := [d] }
  | _ => none }
def clerkFullRow : OpenClaim := { program := "ytcbmmldkpicaiaagreat", sum := "121db7c7864fce16c9cf112c3f780344c12ccf5f6bc28508f37d1af6c861ea5d", func := "guilloche/guillochelaw08.ClerkFull", spec := "clerkFull", unfollowed := true, recurses := true, apart := false }
def ClerkFullSaid : Prop := clerkFullRow.holds Tryz.pinned (OpenSpec.ofChange clerkFullSpec)

/-- ITS FALSE NEIGHBOUR: 'it returns false'. Refute it at one input. -/
def clerkFullWrong : ChangeSpec := { name := "clerkFull", fn := fun _ => fun
  | [d] => { results := [.lit (.bool false)], args := [d] }
  | _ => none }
def ClerkFullWrongFalsely : Prop := clerkFullRow.holds Tryz.pinned (OpenSpec.ofChange clerkFullWrong)

/-- 'guillochelaw08.ClerkAlone': WHATEVER THE INPUT: true; the input reads as it did. -/
def clerkAloneSpec : ChangeSpec := { name := "clerkAlone", fn := fun _ => fun
  | [d1, d2] => { results := [.lit (.bool true)], args := [d1, d2] }
  | _ => none }
def clerkAloneRow : OpenClaim := { program := "ytcbmmldkpicaiaagreat", sum := "121db7c7864fce16c9cf112c3f780344c12ccf5f6bc28508f37d1af6c861ea5d", func := "guilloche/guillochelaw08.ClerkAlone", spec := "clerkAlone", unfollowed := true, recurses := true, apart := false }
def ClerkAloneSaid : Prop := clerkAloneRow.holds Tryz.pinned (OpenSpec.ofChange clerkAloneSpec)

/-- ITS FALSE NEIGHBOUR: 'it returns false'. Refute it at one input. -/
def clerkAloneWrong : ChangeSpec := { name := "clerkAlone", fn := fun _ => fun
  | [d1, d2] => { results := [.lit (.bool false)], args := [d1, d2] }
  | _ => none }
def ClerkAloneWrongFalsely : Prop := clerkAloneRow.holds Tryz.pinned (OpenSpec.ofChange clerkAloneWrong)

/-- 'guillochelaw08.ClerkUndone': WHATEVER THE INPUT: true; the input reads as it did. -/
def clerkUndoneSpec : ChangeSpec := { name := "clerkUndone", fn := fun _ => fun
  | [d1, d2] => { results := [.lit (.bool true)], args := [d1, d2] }
  | _ => none }
def clerkUndoneRow : OpenClaim := { program := "ytcbmmldkpicaiaagreat", sum := "121db7c7864fce16c9cf112c3f780344c12ccf5f6bc28508f37d1af6c861ea5d", func := "guilloche/guillochelaw08.ClerkUndone", spec := "clerkUndone", unfollowed := true, recurses := true, apart := false }
def ClerkUndoneSaid : Prop := clerkUndoneRow.holds Tryz.pinned (OpenSpec.ofChange clerkUndoneSpec)

/-- ITS FALSE NEIGHBOUR: 'it returns false'. Refute it at one input. -/
def clerkUndoneWrong : ChangeSpec := { name := "clerkUndone", fn := fun _ => fun
  | [d1, d2] => { results := [.lit (.bool false)], args := [d1, d2] }
  | _ => none }
def ClerkUndoneWrongFalsely : Prop := clerkUndoneRow.holds Tryz.pinned (OpenSpec.ofChange clerkUndoneWrong)

/-- 'guillochelaw08.ClerkNobody': WHATEVER THE INPUT: true; the input reads as it did. -/
def clerkNobodySpec : ChangeSpec := { name := "clerkNobody", fn := fun _ => fun
  | [d] => { results := [.lit (.bool true)], args := [d] }
  | _ => none }
def clerkNobodyRow : OpenClaim := { program := "ytcbmmldkpicaiaagreat", sum := "121db7c7864fce16c9cf112c3f780344c12ccf5f6bc28508f37d1af6c861ea5d", func := "guilloche/guillochelaw08.ClerkNobody", spec := "clerkNobody", unfollowed := true, recurses := true, apart := false }
def ClerkNobodySaid : Prop := clerkNobodyRow.holds Tryz.pinned (OpenSpec.ofChange clerkNobodySpec)

/-- ITS FALSE NEIGHBOUR: 'it returns false'. Refute it at one input. -/
def clerkNobodyWrong : ChangeSpec := { name := "clerkNobody", fn := fun _ => fun
  | [d] => { results := [.lit (.bool false)], args := [d] }
  | _ => none }
def ClerkNobodyWrongFalsely : Prop := clerkNobodyRow.holds Tryz.pinned (OpenSpec.ofChange clerkNobodyWrong)

/-- 'guillochelaw08.ClerkSound': WHATEVER THE INPUT: true; the input reads as it did. -/
def clerkSoundSpec : ChangeSpec := { name := "clerkSound", fn := fun _ => fun
  | [d1, d2] => { results := [.lit (.bool true)], args := [d1, d2] }
  | _ => none }
def clerkSoundRow : OpenClaim := { program := "ytcbmmldkpicaiaagreat", sum := "121db7c7864fce16c9cf112c3f780344c12ccf5f6bc28508f37d1af6c861ea5d", func := "guilloche/guillochelaw08.ClerkSound", spec := "clerkSound", unfollowed := true, recurses := true, apart := false }
def ClerkSoundSaid : Prop := clerkSoundRow.holds Tryz.pinned (OpenSpec.ofChange clerkSoundSpec)

/-- ITS FALSE NEIGHBOUR: 'it returns false'. Refute it at one input. -/
def clerkSoundWrong : ChangeSpec := { name := "clerkSound", fn := fun _ => fun
  | [d1, d2] => { results := [.lit (.bool false)], args := [d1, d2] }
  | _ => none }
def ClerkSoundWrongFalsely : Prop := clerkSoundRow.holds Tryz.pinned (OpenSpec.ofChange clerkSoundWrong)

/-- 'guillochelaw08.ClerkEnds': WHATEVER THE INPUT: true; the input reads as it did. -/
def clerkEndsSpec : ChangeSpec := { name := "clerkEnds", fn := fun _ => fun
  | [d1, d2, d3] => { results := [.lit (.bool true)], args := [d1, d2, d3] }
  | _ => none }
def clerkEndsRow : OpenClaim := { program := "ytcbmmldkpicaiaagreat", sum := "121db7c7864fce16c9cf112c3f780344c12ccf5f6bc28508f37d1af6c861ea5d", func := "guilloche/guillochelaw08.ClerkEnds", spec := "clerkEnds", unfollowed := true, recurses := true, apart := false }
def ClerkEndsSaid : Prop := clerkEndsRow.holds Tryz.pinned (OpenSpec.ofChange clerkEndsSpec)

/-- ITS FALSE NEIGHBOUR: 'it returns false'. Refute it at one input. -/
def clerkEndsWrong : ChangeSpec := { name := "clerkEnds", fn := fun _ => fun
  | [d1, d2, d3] => { results := [.lit (.bool false)], args := [d1, d2, d3] }
  | _ => none }
def ClerkEndsWrongFalsely : Prop := clerkEndsRow.holds Tryz.pinned (OpenSpec.ofChange clerkEndsWrong)

/-- 'guillochelaw08.ClerkSerial': WHATEVER THE INPUT: true; the input reads as it did. -/
def clerkSerialSpec : ChangeSpec := { name := "clerkSerial", fn := fun _ => fun
  | [d1, d2] => { results := [.lit (.bool true)], args := [d1, d2] }
  | _ => none }
def clerkSerialRow : OpenClaim := { program := "ytcbmmldkpicaiaagreat", sum := "121db7c7864fce16c9cf112c3f780344c12ccf5f6bc28508f37d1af6c861ea5d", func := "guilloche/guillochelaw08.ClerkSerial", spec := "clerkSerial", unfollowed := true, recurses := true, apart := false }
def ClerkSerialSaid : Prop := clerkSerialRow.holds Tryz.pinned (OpenSpec.ofChange clerkSerialSpec)

/-- ITS FALSE NEIGHBOUR: 'it returns false'. Refute it at one input. -/
def clerkSerialWrong : ChangeSpec := { name := "clerkSerial", fn := fun _ => fun
  | [d1, d2] => { results := [.lit (.bool false)], args := [d1, d2] }
  | _ => none }
def ClerkSerialWrongFalsely : Prop := clerkSerialRow.holds Tryz.pinned (OpenSpec.ofChange clerkSerialWrong)

/- THE SECOND FORM. 'bulk': how many values and letters a reading holds, each counted each time it is reached (what is shared counts as often as it is met; a slice's spare places count too). A statement '..UptoSaid' is the law's where the arguments, and the package variables that the reading takes, are together of bulk at most 1048576: NARROWER than '..Said'. Prove '..Said' where nothing that the law and all that it calls make is longer than what came in: it says more and counts as full. Else prove '..UptoSaid'. A law counts once. -/
mutual
def uptoBulk {H : Type} : DataW H → Nat
  | .lit (.string bytes) => bytes.length + 1
  | .lit _ => 1
  | .nil => 1
  | .ptr d => uptoBulk d + 1
  | .slice elems spare => uptoBulkAll elems + uptoBulkAll spare + 1
  | .agg parts => uptoBulkAll parts + 1
  | .iface _ d => uptoBulk d + 1
  | .map entries => uptoBulkEntries entries + 1
  | .held _ => 1
def uptoBulkAll {H : Type} : List (DataW H) → Nat
  | [] => 0
  | d :: r => uptoBulk d + uptoBulkAll r
def uptoBulkEntries {H : Type} : List (Lit × DataW H) → Nat
  | [] => 0
  | x :: r => uptoBulkEntry x + uptoBulkEntries r
def uptoBulkEntry {H : Type} : Lit × DataW H → Nat
  | (.string bytes, d) => bytes.length + uptoBulk d + 1
  | (_, d) => uptoBulk d + 1
 end
def uptoSmall : (H : Type) → List (DataW H) → Bool := fun _ ds => decide (uptoBulkAll ds ≤ 1048576)
def OpenSpec.upto (s : _root_.Go.ChangeSpec) : _root_.Go.OpenSpec := { _root_.Go.OpenSpec.ofChange s with cond := some uptoSmall }

/-- 'guillochelaw08.ClerkRoom', WHERE WHAT IT READS IS OF BULK AT MOST 1048576: true; the input reads as it did. -/
def clerkRoomUptoRow : OpenClaim := { program := "ytcbmmldkpicaiaagreat", sum := "121db7c7864fce16c9cf112c3f780344c12ccf5f6bc28508f37d1af6c861ea5d", func := "guilloche/guillochelaw08.ClerkRoom", spec := "clerkRoom", unfollowed := true, recurses := true, apart := false, narrowed := true }
def ClerkRoomUptoSaid : Prop := clerkRoomUptoRow.holds Tryz.pinned (OpenSpec.upto clerkRoomSpec)

/-- 'guillochelaw08.ClerkPlays', WHERE WHAT IT READS IS OF BULK AT MOST 1048576: true; the input reads as it did. -/
def clerkPlaysUptoRow : OpenClaim := { program := "ytcbmmldkpicaiaagreat", sum := "121db7c7864fce16c9cf112c3f780344c12ccf5f6bc28508f37d1af6c861ea5d", func := "guilloche/guillochelaw08.ClerkPlays", spec := "clerkPlays", unfollowed := true, recurses := true, apart := false, narrowed := true }
def ClerkPlaysUptoSaid : Prop := clerkPlaysUptoRow.holds Tryz.pinned (OpenSpec.upto clerkPlaysSpec)

/-- 'guillochelaw08.ClerkLocks', WHERE WHAT IT READS IS OF BULK AT MOST 1048576: true; the input reads as it did. -/
def clerkLocksUptoRow : OpenClaim := { program := "ytcbmmldkpicaiaagreat", sum := "121db7c7864fce16c9cf112c3f780344c12ccf5f6bc28508f37d1af6c861ea5d", func := "guilloche/guillochelaw08.ClerkLocks", spec := "clerkLocks", unfollowed := true, recurses := true, apart := false, narrowed := true }
def ClerkLocksUptoSaid : Prop := clerkLocksUptoRow.holds Tryz.pinned (OpenSpec.upto clerkLocksSpec)

/-- 'guillochelaw08.ClerkFull', WHERE WHAT IT READS IS OF BULK AT MOST 1048576: true; the input reads as it did. -/
def clerkFullUptoRow : OpenClaim := { program := "ytcbmmldkpicaiaagreat", sum := "121db7c7864fce16c9cf112c3f780344c12ccf5f6bc28508f37d1af6c861ea5d", func := "guilloche/guillochelaw08.ClerkFull", spec := "clerkFull", unfollowed := true, recurses := true, apart := false, narrowed := true }
def ClerkFullUptoSaid : Prop := clerkFullUptoRow.holds Tryz.pinned (OpenSpec.upto clerkFullSpec)

/-- 'guillochelaw08.ClerkAlone', WHERE WHAT IT READS IS OF BULK AT MOST 1048576: true; the input reads as it did. -/
def clerkAloneUptoRow : OpenClaim := { program := "ytcbmmldkpicaiaagreat", sum := "121db7c7864fce16c9cf112c3f780344c12ccf5f6bc28508f37d1af6c861ea5d", func := "guilloche/guillochelaw08.ClerkAlone", spec := "clerkAlone", unfollowed := true, recurses := true, apart := false, narrowed := true }
def ClerkAloneUptoSaid : Prop := clerkAloneUptoRow.holds Tryz.pinned (OpenSpec.upto clerkAloneSpec)

/-- 'guillochelaw08.ClerkUndone', WHERE WHAT IT READS IS OF BULK AT MOST 1048576: true; the input reads as it did. -/
def clerkUndoneUptoRow : OpenClaim := { program := "ytcbmmldkpicaiaagreat", sum := "121db7c7864fce16c9cf112c3f780344c12ccf5f6bc28508f37d1af6c861ea5d", func := "guilloche/guillochelaw08.ClerkUndone", spec := "clerkUndone", unfollowed := true, recurses := true, apart := false, narrowed := true }
def ClerkUndoneUptoSaid : Prop := clerkUndoneUptoRow.holds Tryz.pinned (OpenSpec.upto clerkUndoneSpec)

/-- 'guillochelaw08.ClerkNobody', WHERE WHAT IT READS IS OF BULK AT MOST 1048576: true; the input reads as it did. -/
def clerkNobodyUptoRow : OpenClaim := { program := "ytcbmmldkpicaiaagreat", sum := "121db7c7864fce16c9cf112c3f780344c12ccf5f6bc28508f37d1af6c861ea5d", func := "guilloche/guillochelaw08.ClerkNobody", spec := "clerkNobody", unfollowed := true, recurses := true, apart := false, narrowed := true }
def ClerkNobodyUptoSaid : Prop := clerkNobodyUptoRow.holds Tryz.pinned (OpenSpec.upto clerkNobodySpec)

/-- 'guillochelaw08.ClerkSound', WHERE WHAT IT READS IS OF BULK AT MOST 1048576: true; the input reads as it did. -/
def clerkSoundUptoRow : OpenClaim := { program := "ytcbmmldkpicaiaagreat", sum := "121db7c7864fce16c9cf112c3f780344c12ccf5f6bc28508f37d1af6c861ea5d", func := "guilloche/guillochelaw08.ClerkSound", spec := "clerkSound", unfollowed := true, recurses := true, apart := false, narrowed := true }
def ClerkSoundUptoSaid : Prop := clerkSoundUptoRow.holds Tryz.pinned (OpenSpec.upto clerkSoundSpec)

/-- 'guillochelaw08.ClerkEnds', WHERE WHAT IT READS IS OF BULK AT MOST 1048576: true; the input reads as it did. -/
def clerkEndsUptoRow : OpenClaim := { program := "ytcbmmldkpicaiaagreat", sum := "121db7c7864fce16c9cf112c3f780344c12ccf5f6bc28508f37d1af6c861ea5d", func := "guilloche/guillochelaw08.ClerkEnds", spec := "clerkEnds", unfollowed := true, recurses := true, apart := false, narrowed := true }
def ClerkEndsUptoSaid : Prop := clerkEndsUptoRow.holds Tryz.pinned (OpenSpec.upto clerkEndsSpec)

/-- 'guillochelaw08.ClerkSerial', WHERE WHAT IT READS IS OF BULK AT MOST 1048576: true; the input reads as it did. -/
def clerkSerialUptoRow : OpenClaim := { program := "ytcbmmldkpicaiaagreat", sum := "121db7c7864fce16c9cf112c3f780344c12ccf5f6bc28508f37d1af6c861ea5d", func := "guilloche/guillochelaw08.ClerkSerial", spec := "clerkSerial", unfollowed := true, recurses := true, apart := false, narrowed := true }
def ClerkSerialUptoSaid : Prop := clerkSerialUptoRow.holds Tryz.pinned (OpenSpec.upto clerkSerialSpec)

end Rows
end Go.Proofs.YtcbmmldkpicaiaaGreat
