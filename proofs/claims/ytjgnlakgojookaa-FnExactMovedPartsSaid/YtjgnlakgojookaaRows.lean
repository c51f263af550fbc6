/-
  No cell of these rows narrows 'for every input' (looked for: loops, veiled, ifaces, maps, wideKeys, modest, calm, conditions, laid).
  DERIVED. THE GIVEN ROWS OF THIS SEAT. 10 by the template 'for every input the law returns true; each argument reads behind the call as it read before'; 0 by the template 'total and deterministic' (their statements: YtjgnlakgojookaaTotals.lean).
  GIVEN WITH THE SEED: the statements are not yours to turn. If you find one false, say at which input.
  Laid BY PROGRAM, IN A SANDBOX (cutbox-rows.mjs): the forced cells as the released guide's own fill.sh prints them over the translation 6b04f762bfd1319b… (all of the seat's roots in one cut). By AI agents, Wed Nov 11 2026. No macro, syntax, notation, axiom, sorry.
-/
import Derived.Test.YtjgnlakgojookaaChecked
import GoSem.Claim
import GoSem.ClaimJoined
import GoSem.ClaimMapViews
import Derived.JoinedTies
import Derived.KernelRfl
namespace Go.Proofs.Ytjgnlakgojookaa
/- THE CELL 'sum', in the pinned program and in every row, IS THE sha256 OF THE DUMP (.gsa) THAT YtjgnlakgojookaaProg.lean LOADS. Nothing in Lean hashes anything: it is a label: what it is worth is what the hold of that sum in a sandbox is worth. -/
noncomputable def Try.pinned : Pinned := { name := "ytjgnlakgojookaa", sum := "6b04f762bfd1319b7fdfd94dc2b9e8347cc90bf079d9309761247aa6f4cdbef0", checked := Try.checked }
namespace Rows
def none {H : Type} : Left H := { results := [], args := [] }

/-- 'laws.FnExactIsAssembly': WHATEVER THE INPUT: true; the input reads as it did. -/
def fnExactIsAssemblySpec : ChangeSpec := { name := "fnExactIsAssembly", fn := fun _ => fun
  | [d] => { results := [.lit (.bool true)], args := [d] }
  | _ => none }
def fnExactIsAssemblyRow : OpenClaim := { program := "ytjgnlakgojookaa", sum := "6b04f762bfd1319b7fdfd94dc2b9e8347cc90bf079d9309761247aa6f4cdbef0", func := "loop.example/g00919/laws.FnExactIsAssembly", spec := "fnExactIsAssembly", unfollowed := true, recurses := true, plainKeys := false, apart := false }
def FnExactIsAssemblySaid : Prop := fnExactIsAssemblyRow.holds Try.pinned (OpenSpec.ofChange fnExactIsAssemblySpec)

/-- ITS FALSE NEIGHBOUR: 'it returns false'. Refute it at one input. -/
def fnExactIsAssemblyWrong : ChangeSpec := { name := "fnExactIsAssembly", fn := fun _ => fun
  | [d] => { results := [.lit (.bool false)], args := [d] }
  | _ => none }
def FnExactIsAssemblyWrongFalsely : Prop := fnExactIsAssemblyRow.holds Try.pinned (OpenSpec.ofChange fnExactIsAssemblyWrong)

/-- 'laws.FnExactAreClear': WHATEVER THE INPUT: true; the input reads as it did. -/
def fnExactAreClearSpec : ChangeSpec := { name := "fnExactAreClear", fn := fun _ => fun
  | [d1, d2] => { results := [.lit (.bool true)], args := [d1, d2] }
  | _ => none }
def fnExactAreClearRow : OpenClaim := { program := "ytjgnlakgojookaa", sum := "6b04f762bfd1319b7fdfd94dc2b9e8347cc90bf079d9309761247aa6f4cdbef0", func := "loop.example/g00919/laws.FnExactAreClear", spec := "fnExactAreClear", unfollowed := true, recurses := true, plainKeys := false, apart := false }
def FnExactAreClearSaid : Prop := fnExactAreClearRow.holds Try.pinned (OpenSpec.ofChange fnExactAreClearSpec)

/-- ITS FALSE NEIGHBOUR: 'it returns false'. Refute it at one input. -/
def fnExactAreClearWrong : ChangeSpec := { name := "fnExactAreClear", fn := fun _ => fun
  | [d1, d2] => { results := [.lit (.bool false)], args := [d1, d2] }
  | _ => none }
def FnExactAreClearWrongFalsely : Prop := fnExactAreClearRow.holds Try.pinned (OpenSpec.ofChange fnExactAreClearWrong)

/-- 'laws.FnExactIsInterlocked': WHATEVER THE INPUT: true; the input reads as it did. -/
def fnExactIsInterlockedSpec : ChangeSpec := { name := "fnExactIsInterlocked", fn := fun _ => fun
  | [d] => { results := [.lit (.bool true)], args := [d] }
  | _ => none }
def fnExactIsInterlockedRow : OpenClaim := { program := "ytjgnlakgojookaa", sum := "6b04f762bfd1319b7fdfd94dc2b9e8347cc90bf079d9309761247aa6f4cdbef0", func := "loop.example/g00919/laws.FnExactIsInterlocked", spec := "fnExactIsInterlocked", unfollowed := true, recurses := true, plainKeys := false, apart := false }
def FnExactIsInterlockedSaid : Prop := fnExactIsInterlockedRow.holds Try.pinned (OpenSpec.ofChange fnExactIsInterlockedSpec)

/-- ITS FALSE NEIGHBOUR: 'it returns false'. Refute it at one input. -/
def fnExactIsInterlockedWrong : ChangeSpec := { name := "fnExactIsInterlocked", fn := fun _ => fun
  | [d] => { results := [.lit (.bool false)], args := [d] }
  | _ => none }
def FnExactIsInterlockedWrongFalsely : Prop := fnExactIsInterlockedRow.holds Try.pinned (OpenSpec.ofChange fnExactIsInterlockedWrong)

/-- 'laws.FnExactDoesLeave': WHATEVER THE INPUT: true; the input reads as it did. -/
def fnExactDoesLeaveSpec : ChangeSpec := { name := "fnExactDoesLeave", fn := fun _ => fun
  | [d1, d2, d3, d4] => { results := [.lit (.bool true)], args := [d1, d2, d3, d4] }
  | _ => none }
def fnExactDoesLeaveRow : OpenClaim := { program := "ytjgnlakgojookaa", sum := "6b04f762bfd1319b7fdfd94dc2b9e8347cc90bf079d9309761247aa6f4cdbef0", func := "loop.example/g00919/laws.FnExactDoesLeave", spec := "fnExactDoesLeave", unfollowed := true, recurses := true, plainKeys := false, apart := false }
def FnExactDoesLeaveSaid : Prop := fnExactDoesLeaveRow.holds Try.pinned (OpenSpec.ofChange fnExactDoesLeaveSpec)

/-- ITS FALSE NEIGHBOUR: 'it returns false'. Refute it at one input. -/
def fnExactDoesLeaveWrong : ChangeSpec := { name := "fnExactDoesLeave", fn := fun _ => fun
  | [d1, d2, d3, d4] => { results := [.lit (.bool false)], args := [d1, d2, d3, d4] }
  | _ => none }
def FnExactDoesLeaveWrongFalsely : Prop := fnExactDoesLeaveRow.holds Try.pinned (OpenSpec.ofChange fnExactDoesLeaveWrong)

/-- 'laws.FnExactMovedParts': WHATEVER THE INPUT: true; the input reads as it did. -/
def fnExactMovedPartsSpec : ChangeSpec := { name := "fnExactMovedParts", fn := fun _ => fun
  | [d1, d2] => { results := [.lit (.bool true)], args := [d1, d2] }
  | _ => none }
def fnExactMovedPartsRow : OpenClaim := { program := "ytjgnlakgojookaa", sum := "6b04f762bfd1319b7fdfd94dc2b9e8347cc90bf079d9309761247aa6f4cdbef0", func := "loop.example/g00919/laws.FnExactMovedParts", spec := "fnExactMovedParts", unfollowed := true, recurses := true, plainKeys := false, apart := false }
def FnExactMovedPartsSaid : Prop := fnExactMovedPartsRow.holds Try.pinned (OpenSpec.ofChange fnExactMovedPartsSpec)

/-- ITS FALSE NEIGHBOUR: 'it returns false'. Refute it at one input. -/
def fnExactMovedPartsWrong : ChangeSpec := { name := "fnExactMovedParts", fn := fun _ => fun
  | [d1, d2] => { results := [.lit (.bool false)], args := [d1, d2] }
  | _ => none }
def FnExactMovedPartsWrongFalsely : Prop := fnExactMovedPartsRow.holds Try.pinned (OpenSpec.ofChange fnExactMovedPartsWrong)

/-- 'laws.FnExactMakeMove': WHATEVER THE INPUT: true; the input reads as it did. -/
def fnExactMakeMoveSpec : ChangeSpec := { name := "fnExactMakeMove", fn := fun _ => fun
  | [d1, d2, d3] => { results := [.lit (.bool true)], args := [d1, d2, d3] }
  | _ => none }
def fnExactMakeMoveRow : OpenClaim := { program := "ytjgnlakgojookaa", sum := "6b04f762bfd1319b7fdfd94dc2b9e8347cc90bf079d9309761247aa6f4cdbef0", func := "loop.example/g00919/laws.FnExactMakeMove", spec := "fnExactMakeMove", unfollowed := true, recurses := true, plainKeys := false, apart := false }
def FnExactMakeMoveSaid : Prop := fnExactMakeMoveRow.holds Try.pinned (OpenSpec.ofChange fnExactMakeMoveSpec)

/-- ITS FALSE NEIGHBOUR: 'it returns false'. Refute it at one input. -/
def fnExactMakeMoveWrong : ChangeSpec := { name := "fnExactMakeMove", fn := fun _ => fun
  | [d1, d2, d3] => { results := [.lit (.bool false)], args := [d1, d2, d3] }
  | _ => none }
def FnExactMakeMoveWrongFalsely : Prop := fnExactMakeMoveRow.holds Try.pinned (OpenSpec.ofChange fnExactMakeMoveWrong)

/-- 'laws.FnExactFreeParts': WHATEVER THE INPUT: true; the input reads as it did. -/
def fnExactFreePartsSpec : ChangeSpec := { name := "fnExactFreeParts", fn := fun _ => fun
  | [d1, d2] => { results := [.lit (.bool true)], args := [d1, d2] }
  | _ => none }
def fnExactFreePartsRow : OpenClaim := { program := "ytjgnlakgojookaa", sum := "6b04f762bfd1319b7fdfd94dc2b9e8347cc90bf079d9309761247aa6f4cdbef0", func := "loop.example/g00919/laws.FnExactFreeParts", spec := "fnExactFreeParts", unfollowed := true, recurses := true, plainKeys := false, apart := false }
def FnExactFreePartsSaid : Prop := fnExactFreePartsRow.holds Try.pinned (OpenSpec.ofChange fnExactFreePartsSpec)

/-- ITS FALSE NEIGHBOUR: 'it returns false'. Refute it at one input. -/
def fnExactFreePartsWrong : ChangeSpec := { name := "fnExactFreeParts", fn := fun _ => fun
  | [d1, d2] => { results := [.lit (.bool false)], args := [d1, d2] }
  | _ => none }
def FnExactFreePartsWrongFalsely : Prop := fnExactFreePartsRow.holds Try.pinned (OpenSpec.ofChange fnExactFreePartsWrong)

/-- 'laws.FnExactFollowWay': WHATEVER THE INPUT: true; the input reads as it did. -/
def fnExactFollowWaySpec : ChangeSpec := { name := "fnExactFollowWay", fn := fun _ => fun
  | [d1, d2] => { results := [.lit (.bool true)], args := [d1, d2] }
  | _ => none }
def fnExactFollowWayRow : OpenClaim := { program := "ytjgnlakgojookaa", sum := "6b04f762bfd1319b7fdfd94dc2b9e8347cc90bf079d9309761247aa6f4cdbef0", func := "loop.example/g00919/laws.FnExactFollowWay", spec := "fnExactFollowWay", unfollowed := true, recurses := true, plainKeys := false, apart := false }
def FnExactFollowWaySaid : Prop := fnExactFollowWayRow.holds Try.pinned (OpenSpec.ofChange fnExactFollowWaySpec)

/-- ITS FALSE NEIGHBOUR: 'it returns false'. Refute it at one input. -/
def fnExactFollowWayWrong : ChangeSpec := { name := "fnExactFollowWay", fn := fun _ => fun
  | [d1, d2] => { results := [.lit (.bool false)], args := [d1, d2] }
  | _ => none }
def FnExactFollowWayWrongFalsely : Prop := fnExactFollowWayRow.holds Try.pinned (OpenSpec.ofChange fnExactFollowWayWrong)

/-- 'laws.FnExactPossibleMoves': WHATEVER THE INPUT: true; the input reads as it did. -/
def fnExactPossibleMovesSpec : ChangeSpec := { name := "fnExactPossibleMoves", fn := fun _ => fun
  | [d1, d2] => { results := [.lit (.bool true)], args := [d1, d2] }
  | _ => none }
def fnExactPossibleMovesRow : OpenClaim := { program := "ytjgnlakgojookaa", sum := "6b04f762bfd1319b7fdfd94dc2b9e8347cc90bf079d9309761247aa6f4cdbef0", func := "loop.example/g00919/laws.FnExactPossibleMoves", spec := "fnExactPossibleMoves", unfollowed := true, recurses := true, plainKeys := false, apart := false }
def FnExactPossibleMovesSaid : Prop := fnExactPossibleMovesRow.holds Try.pinned (OpenSpec.ofChange fnExactPossibleMovesSpec)

/-- ITS FALSE NEIGHBOUR: 'it returns false'. Refute it at one input. -/
def fnExactPossibleMovesWrong : ChangeSpec := { name := "fnExactPossibleMoves", fn := fun _ => fun
  | [d1, d2] => { results := [.lit (.bool false)], args := [d1, d2] }
  | _ => none }
def FnExactPossibleMovesWrongFalsely : Prop := fnExactPossibleMovesRow.holds Try.pinned (OpenSpec.ofChange fnExactPossibleMovesWrong)

/-- 'laws.FnMoves': WHATEVER THE INPUT: true; the input reads as it did. -/
def fnMovesSpec : ChangeSpec := { name := "fnMoves", fn := fun _ => fun
  | [d] => { results := [.lit (.bool true)], args := [d] }
  | _ => none }
def fnMovesRow : OpenClaim := { program := "ytjgnlakgojookaa", sum := "6b04f762bfd1319b7fdfd94dc2b9e8347cc90bf079d9309761247aa6f4cdbef0", func := "loop.example/g00919/laws.FnMoves", spec := "fnMoves", unfollowed := true, recurses := true, plainKeys := false, apart := false }
def FnMovesSaid : Prop := fnMovesRow.holds Try.pinned (OpenSpec.ofChange fnMovesSpec)

/-- ITS FALSE NEIGHBOUR: 'it returns false'. Refute it at one input. -/
def fnMovesWrong : ChangeSpec := { name := "fnMoves", fn := fun _ => fun
  | [d] => { results := [.lit (.bool false)], args := [d] }
  | _ => none }
def FnMovesWrongFalsely : Prop := fnMovesRow.holds Try.pinned (OpenSpec.ofChange fnMovesWrong)

/- THE SECOND FORM. 'bulk': how many values and letters a reading holds, each counted each time it is reached (what is shared counts as often as it is met; a slice's spare places count too). A statement '..UptoSaid' is the law's where the arguments, and the package variables that the reading takes, are together of bulk at most 1048576: NARROWER than '..Said'. Prove '..Said' where nothing that the law and all that it calls make is longer than what came in: it says more and counts as full. Else prove '..UptoSaid'. A law counts once. -/
mutual
def uptoBulk {H : Type} : DataW H → Nat
  | .lit (.string bytes) => bytes.length + 1
  | .lit _ => 1
  | .nil => 1
  | .ptr d => uptoBulk d + 1
  | .slice elems spare => uptoBulkAll elems + uptoBulkAll spare + 1
  | .agg parts => uptoBulkAll parts + 1
  | .iface _ d => uptoBulk d + 1
  | .map entries => uptoBulkEntries entries + 1
  | .held _ => 1
def uptoBulkAll {H : Type} : List (DataW H) → Nat
  | [] => 0
  | d :: r => uptoBulk d + uptoBulkAll r
def uptoBulkEntries {H : Type} : List (Lit × DataW H) → Nat
  | [] => 0
  | x :: r => uptoBulkEntry x + uptoBulkEntries r
def uptoBulkEntry {H : Type} : Lit × DataW H → Nat
  | (.string bytes, d) => bytes.length + uptoBulk d + 1
  | (_, d) => uptoBulk d + 1
 end
def uptoSmall : (H : Type) → List (DataW H) → Bool := fun _ ds => decide (uptoBulkAll ds ≤ 1048576)
def OpenSpec.upto (s : _root_.Go.ChangeSpec) : _root_.Go.OpenSpec := { _root_.Go.OpenSpec.ofChange s with cond := some uptoSmall }

/-- 'laws.FnExactIsAssembly', WHERE WHAT IT READS IS OF BULK AT MOST 1048576: true; the input reads as it did. -/
def fnExactIsAssemblyUptoRow : OpenClaim := { program := "ytjgnlakgojookaa", sum := "6b04f762bfd1319b7fdfd94dc2b9e8347cc90bf079d9309761247aa6f4cdbef0", func := "loop.example/g00919/laws.FnExactIsAssembly", spec := "fnExactIsAssembly", unfollowed := true, recurses := true, plainKeys := false, apart := false, narrowed := true }
def FnExactIsAssemblyUptoSaid : Prop := fnExactIsAssemblyUptoRow.holds Try.pinned (OpenSpec.upto fnExactIsAssemblySpec)

/-- 'laws.FnExactAreClear', WHERE WHAT IT READS IS OF BULK AT MOST 1048576: true; the input reads as it did. -/
def fnExactAreClearUptoRow : OpenClaim := { program := "ytjgnlakgojookaa", sum := "6b04f762bfd1319b7fdfd94dc2b9e8347cc90bf079d9309761247aa6f4cdbef0", func := "loop.example/g00919/laws.FnExactAreClear", spec := "fnExactAreClear", unfollowed := true, recurses := true, plainKeys := false, apart := false, narrowed := true }
def FnExactAreClearUptoSaid : Prop := fnExactAreClearUptoRow.holds Try.pinned (OpenSpec.upto fnExactAreClearSpec)

/-- 'laws.FnExactIsInterlocked', WHERE WHAT IT READS IS OF BULK AT MOST 1048576: true; the input reads as it did. -/
def fnExactIsInterlockedUptoRow : OpenClaim := { program := "ytjgnlakgojookaa", sum := "6b04f762bfd1319b7fdfd94dc2b9e8347cc90bf079d9309761247aa6f4cdbef0", func := "loop.example/g00919/laws.FnExactIsInterlocked", spec := "fnExactIsInterlocked", unfollowed := true, recurses := true, plainKeys := false, apart := false, narrowed := true }
def FnExactIsInterlockedUptoSaid : Prop := fnExactIsInterlockedUptoRow.holds Try.pinned (OpenSpec.upto fnExactIsInterlockedSpec)

/-- 'laws.FnExactDoesLeave', WHERE WHAT IT READS IS OF BULK AT MOST 1048576: true; the input reads as it did. -/
def fnExactDoesLeaveUptoRow : OpenClaim := { program := "ytjgnlakgojookaa", sum := "6b04f762bfd1319b7fdfd94dc2b9e8347cc90bf079d9309761247aa6f4cdbef0", func := "loop.example/g00919/laws.FnExactDoesLeave", spec := "fnExactDoesLeave", unfollowed := true, recurses := true, plainKeys := false, apart := false, narrowed := true }
def FnExactDoesLeaveUptoSaid : Prop := fnExactDoesLeaveUptoRow.holds Try.pinned (OpenSpec.upto fnExactDoesLeaveSpec)

/-- 'laws.FnExactMovedParts', WHERE WHAT IT READS IS OF BULK AT MOST 1048576: true; the input reads as it did. -/
def fnExactMovedPartsUptoRow : OpenClaim := { program := "ytjgnlakgojookaa", sum := "6b04f762bfd1319b7fdfd94dc2b9e8347cc90bf079d9309761247aa6f4cdbef0", func := "loop.example/g00919/laws.FnExactMovedParts", spec := "fnExactMovedParts", unfollowed := true, recurses := true, plainKeys := false, apart := false, narrowed := true }
def FnExactMovedPartsUptoSaid : Prop := fnExactMovedPartsUptoRow.holds Try.pinned (OpenSpec.upto fnExactMovedPartsSpec)

/-- 'laws.FnExactMakeMove', WHERE WHAT IT READS IS OF BULK AT MOST 1048576: true; the input reads as it did. -/
def fnExactMakeMoveUptoRow : OpenClaim := { program := "ytjgnlakgojookaa", sum := "6b04f762bfd1319b7fdfd94dc2b9e8347cc90bf079d9309761247aa6f4cdbef0", func := "loop.example/g00919/laws.FnExactMakeMove", spec := "fnExactMakeMove", unfollowed := true, recurses := true, plainKeys := false, apart := false, narrowed := true }
def FnExactMakeMoveUptoSaid : Prop := fnExactMakeMoveUptoRow.holds Try.pinned (OpenSpec.upto fnExactMakeMoveSpec)

/-- 'laws.FnExactFreeParts', WHERE WHAT IT READS IS OF BULK AT MOST 1048576: true; the input reads as it did. -/
def fnExactFreePartsUptoRow : OpenClaim := { program := "ytjgnlakgojookaa", sum := "6b04f762bfd1319b7fdfd94dc2b9e8347cc90bf079d9309761247aa6f4cdbef0", func := "loop.example/g00919/laws.FnExactFreeParts", spec := "fnExactFreeParts", unfollowed := true, recurses := true, plainKeys := false, apart := false, narrowed := true }
def FnExactFreePartsUptoSaid : Prop := fnExactFreePartsUptoRow.holds Try.pinned (OpenSpec.upto fnExactFreePartsSpec)

/-- 'laws.FnExactFollowWay', WHERE WHAT IT READS IS OF BULK AT MOST 1048576: true; the input reads as it did. -/
def fnExactFollowWayUptoRow : OpenClaim := { program := "ytjgnlakgojookaa", sum := "6b04f762bfd1319b7fdfd94dc2b9e8347cc90bf079d9309761247aa6f4cdbef0", func := "loop.example/g00919/laws.FnExactFollowWay", spec := "fnExactFollowWay", unfollowed := true, recurses := true, plainKeys := false, apart := false, narrowed := true }
def FnExactFollowWayUptoSaid : Prop := fnExactFollowWayUptoRow.holds Try.pinned (OpenSpec.upto fnExactFollowWaySpec)

/-- 'laws.FnExactPossibleMoves', WHERE WHAT IT READS IS OF BULK AT MOST 1048576: true; the input reads as it did. -/
def fnExactPossibleMovesUptoRow : OpenClaim := { program := "ytjgnlakgojookaa", sum := "6b04f762bfd1319b7fdfd94dc2b9e8347cc90bf079d9309761247aa6f4cdbef0", func := "loop.example/g00919/laws.FnExactPossibleMoves", spec := "fnExactPossibleMoves", unfollowed := true, recurses := true, plainKeys := false, apart := false, narrowed := true }
def FnExactPossibleMovesUptoSaid : Prop := fnExactPossibleMovesUptoRow.holds Try.pinned (OpenSpec.upto fnExactPossibleMovesSpec)

/-- 'laws.FnMoves', WHERE WHAT IT READS IS OF BULK AT MOST 1048576: true; the input reads as it did. -/
def fnMovesUptoRow : OpenClaim := { program := "ytjgnlakgojookaa", sum := "6b04f762bfd1319b7fdfd94dc2b9e8347cc90bf079d9309761247aa6f4cdbef0", func := "loop.example/g00919/laws.FnMoves", spec := "fnMoves", unfollowed := true, recurses := true, plainKeys := false, apart := false, narrowed := true }
def FnMovesUptoSaid : Prop := fnMovesUptoRow.holds Try.pinned (OpenSpec.upto fnMovesSpec)

end Rows
end Go.Proofs.Ytjgnlakgojookaa
