/-
  No cell of these rows narrows 'for every input' (looked for: loops, veiled, ifaces, maps, wideKeys, modest, calm, conditions, laid).
  DERIVED. THE GIVEN ROWS OF THIS SEAT. 6 by the template 'for every input the law returns true; each argument reads behind the call as it read before'; 0 by the template 'total and deterministic' (their statements: YteiiabkdbogjkaaTotals.lean).
  GIVEN WITH THE SEED: the statements are not yours to turn. If you find one false, say at which input.
  Laid BY PROGRAM, IN A SANDBOX (cutbox-rows.mjs): the forced cells as the released guide's own fill.sh prints them over the translation 485d7d74e8321830… (all of the seat's roots in one cut). By AI agents, Wed Nov 11 2026. No macro, syntax, notation, axiom, sorry.
-/
import Derived.Test.YteiiabkdbogjkaaChecked
import GoSem.Claim
import GoSem.ClaimJoined
import GoSem.ClaimMapViews
import Derived.JoinedTies
import Derived.KernelRfl
namespace Go.Proofs.Yteiiabkdbogjkaa
/- THE CELL 'sum', in the pinned program and in every row, IS THE sha256 OF THE DUMP (.gsa) THAT YteiiabkdbogjkaaProg.lean LOADS. Nothing in Lean hashes anything: it is a label: what it is worth is what the hold of that sum in a sandbox is worth. -/
noncomputable def Try.pinned : Pinned := { name := "yteiiabkdbogjkaa", sum := "485d7d74e832183011eb106d29c34e122c95618243ec462bd2941f46b648e545", checked := Try.checked }
namespace Rows
def none {H : Type} : Left H := { results := [], args := [] }

/-- 'laws.FnExactBackMove': WHATEVER THE INPUT: true; the input reads as it did. -/
def fnExactBackMoveSpec : ChangeSpec := { name := "fnExactBackMove", fn := fun _ => fun
  | [d] => { results := [.lit (.bool true)], args := [d] }
  | _ => none }
def fnExactBackMoveRow : OpenClaim := { program := "yteiiabkdbogjkaa", sum := "485d7d74e832183011eb106d29c34e122c95618243ec462bd2941f46b648e545", func := "loop.example/g00919/laws.FnExactBackMove", spec := "fnExactBackMove", plainKeys := false, apart := false }
def FnExactBackMoveSaid : Prop := fnExactBackMoveRow.holds Try.pinned (OpenSpec.ofChange fnExactBackMoveSpec)

/-- ITS FALSE NEIGHBOUR: 'it returns false'. Refute it at one input. -/
def fnExactBackMoveWrong : ChangeSpec := { name := "fnExactBackMove", fn := fun _ => fun
  | [d] => { results := [.lit (.bool false)], args := [d] }
  | _ => none }
def FnExactBackMoveWrongFalsely : Prop := fnExactBackMoveRow.holds Try.pinned (OpenSpec.ofChange fnExactBackMoveWrong)

/-- 'laws.FnExactIsLattice': WHATEVER THE INPUT: true; the input reads as it did. -/
def fnExactIsLatticeSpec : ChangeSpec := { name := "fnExactIsLattice", fn := fun _ => fun
  | [d] => { results := [.lit (.bool true)], args := [d] }
  | _ => none }
def fnExactIsLatticeRow : OpenClaim := { program := "yteiiabkdbogjkaa", sum := "485d7d74e832183011eb106d29c34e122c95618243ec462bd2941f46b648e545", func := "loop.example/g00919/laws.FnExactIsLattice", spec := "fnExactIsLattice", plainKeys := false, apart := false }
def FnExactIsLatticeSaid : Prop := fnExactIsLatticeRow.holds Try.pinned (OpenSpec.ofChange fnExactIsLatticeSpec)

/-- ITS FALSE NEIGHBOUR: 'it returns false'. Refute it at one input. -/
def fnExactIsLatticeWrong : ChangeSpec := { name := "fnExactIsLattice", fn := fun _ => fun
  | [d] => { results := [.lit (.bool false)], args := [d] }
  | _ => none }
def FnExactIsLatticeWrongFalsely : Prop := fnExactIsLatticeRow.holds Try.pinned (OpenSpec.ofChange fnExactIsLatticeWrong)

/-- 'laws.FnExactCellModulo': WHATEVER THE INPUT: true; the input reads as it did. -/
def fnExactCellModuloSpec : ChangeSpec := { name := "fnExactCellModulo", fn := fun _ => fun
  | [d1, d2] => { results := [.lit (.bool true)], args := [d1, d2] }
  | _ => none }
def fnExactCellModuloRow : OpenClaim := { program := "yteiiabkdbogjkaa", sum := "485d7d74e832183011eb106d29c34e122c95618243ec462bd2941f46b648e545", func := "loop.example/g00919/laws.FnExactCellModulo", spec := "fnExactCellModulo", plainKeys := false, apart := false }
def FnExactCellModuloSaid : Prop := fnExactCellModuloRow.holds Try.pinned (OpenSpec.ofChange fnExactCellModuloSpec)

/-- ITS FALSE NEIGHBOUR: 'it returns false'. Refute it at one input. -/
def fnExactCellModuloWrong : ChangeSpec := { name := "fnExactCellModulo", fn := fun _ => fun
  | [d1, d2] => { results := [.lit (.bool false)], args := [d1, d2] }
  | _ => none }
def FnExactCellModuloWrongFalsely : Prop := fnExactCellModuloRow.holds Try.pinned (OpenSpec.ofChange fnExactCellModuloWrong)

/-- 'laws.FnExactDoesTile': WHATEVER THE INPUT: true; the input reads as it did. -/
def fnExactDoesTileSpec : ChangeSpec := { name := "fnExactDoesTile", fn := fun _ => fun
  | [d1, d2] => { results := [.lit (.bool true)], args := [d1, d2] }
  | _ => none }
def fnExactDoesTileRow : OpenClaim := { program := "yteiiabkdbogjkaa", sum := "485d7d74e832183011eb106d29c34e122c95618243ec462bd2941f46b648e545", func := "loop.example/g00919/laws.FnExactDoesTile", spec := "fnExactDoesTile", plainKeys := false, apart := false }
def FnExactDoesTileSaid : Prop := fnExactDoesTileRow.holds Try.pinned (OpenSpec.ofChange fnExactDoesTileSpec)

/-- ITS FALSE NEIGHBOUR: 'it returns false'. Refute it at one input. -/
def fnExactDoesTileWrong : ChangeSpec := { name := "fnExactDoesTile", fn := fun _ => fun
  | [d1, d2] => { results := [.lit (.bool false)], args := [d1, d2] }
  | _ => none }
def FnExactDoesTileWrongFalsely : Prop := fnExactDoesTileRow.holds Try.pinned (OpenSpec.ofChange fnExactDoesTileWrong)

/-- 'laws.FnExactCountLattices': WHATEVER THE INPUT: true; the input reads as it did. -/
def fnExactCountLatticesSpec : ChangeSpec := { name := "fnExactCountLattices", fn := fun _ => fun
  | [d] => { results := [.lit (.bool true)], args := [d] }
  | _ => none }
def fnExactCountLatticesRow : OpenClaim := { program := "yteiiabkdbogjkaa", sum := "485d7d74e832183011eb106d29c34e122c95618243ec462bd2941f46b648e545", func := "loop.example/g00919/laws.FnExactCountLattices", spec := "fnExactCountLattices", plainKeys := false, apart := false }
def FnExactCountLatticesSaid : Prop := fnExactCountLatticesRow.holds Try.pinned (OpenSpec.ofChange fnExactCountLatticesSpec)

/-- ITS FALSE NEIGHBOUR: 'it returns false'. Refute it at one input. -/
def fnExactCountLatticesWrong : ChangeSpec := { name := "fnExactCountLattices", fn := fun _ => fun
  | [d] => { results := [.lit (.bool false)], args := [d] }
  | _ => none }
def FnExactCountLatticesWrongFalsely : Prop := fnExactCountLatticesRow.holds Try.pinned (OpenSpec.ofChange fnExactCountLatticesWrong)

/-- 'laws.FnExactFindLattice': WHATEVER THE INPUT: true; the input reads as it did. -/
def fnExactFindLatticeSpec : ChangeSpec := { name := "fnExactFindLattice", fn := fun _ => fun
  | [d] => { results := [.lit (.bool true)], args := [d] }
  | _ => none }
def fnExactFindLatticeRow : OpenClaim := { program := "yteiiabkdbogjkaa", sum := "485d7d74e832183011eb106d29c34e122c95618243ec462bd2941f46b648e545", func := "loop.example/g00919/laws.FnExactFindLattice", spec := "fnExactFindLattice", plainKeys := false, apart := false }
def FnExactFindLatticeSaid : Prop := fnExactFindLatticeRow.holds Try.pinned (OpenSpec.ofChange fnExactFindLatticeSpec)

/-- ITS FALSE NEIGHBOUR: 'it returns false'. Refute it at one input. -/
def fnExactFindLatticeWrong : ChangeSpec := { name := "fnExactFindLattice", fn := fun _ => fun
  | [d] => { results := [.lit (.bool false)], args := [d] }
  | _ => none }
def FnExactFindLatticeWrongFalsely : Prop := fnExactFindLatticeRow.holds Try.pinned (OpenSpec.ofChange fnExactFindLatticeWrong)

/- THE SECOND FORM. 'bulk': how many values and letters a reading holds, each counted each time it is reached (what is shared counts as often as it is met; a slice's spare places count too). A statement '..UptoSaid' is the law's where the arguments, and the package variables that the reading takes, are together of bulk at most 1048576: NARROWER than '..Said'. Prove '..Said' where nothing that the law and all that it calls make is longer than what came in: it says more and counts as full. Else prove '..UptoSaid'. A law counts once. -/
mutual
def uptoBulk {H : Type} : DataW H → Nat
  | .lit (.string bytes) => bytes.length + 1
  | .lit _ => 1
  | .nil => 1
  | .ptr d => uptoBulk d + 1
  | .slice elems spare => uptoBulkAll elems + uptoBulkAll spare + 1
  | .agg parts => uptoBulkAll parts + 1
  | .iface _ d => uptoBulk d + 1
  | .map entries => uptoBulkEntries entries + 1
  | .held _ => 1
def uptoBulkAll {H : Type} : List (DataW H) → Nat
  | [] => 0
  | d :: r => uptoBulk d + uptoBulkAll r
def uptoBulkEntries {H : Type} : List (Lit × DataW H) → Nat
  | [] => 0
  | x :: r => uptoBulkEntry x + uptoBulkEntries r
def uptoBulkEntry {H : Type} : Lit × DataW H → Nat
  | (.string bytes, d) => bytes.length + uptoBulk d + 1
  | (_, d) => uptoBulk d + 1
 end
def uptoSmall : (H : Type) → List (DataW H) → Bool := fun _ ds => decide (uptoBulkAll ds ≤ 1048576)
def OpenSpec.upto (s : _root_.Go.ChangeSpec) : _root_.Go.OpenSpec := { _root_.Go.OpenSpec.ofChange s with cond := some uptoSmall }

/-- 'laws.FnExactBackMove', WHERE WHAT IT READS IS OF BULK AT MOST 1048576: true; the input reads as it did. -/
def fnExactBackMoveUptoRow : OpenClaim := { program := "yteiiabkdbogjkaa", sum := "485d7d74e832183011eb106d29c34e122c95618243ec462bd2941f46b648e545", func := "loop.example/g00919/laws.FnExactBackMove", spec := "fnExactBackMove", plainKeys := false, apart := false, narrowed := true }
def FnExactBackMoveUptoSaid : Prop := fnExactBackMoveUptoRow.holds Try.pinned (OpenSpec.upto fnExactBackMoveSpec)

/-- 'laws.FnExactIsLattice', WHERE WHAT IT READS IS OF BULK AT MOST 1048576: true; the input reads as it did. -/
def fnExactIsLatticeUptoRow : OpenClaim := { program := "yteiiabkdbogjkaa", sum := "485d7d74e832183011eb106d29c34e122c95618243ec462bd2941f46b648e545", func := "loop.example/g00919/laws.FnExactIsLattice", spec := "fnExactIsLattice", plainKeys := false, apart := false, narrowed := true }
def FnExactIsLatticeUptoSaid : Prop := fnExactIsLatticeUptoRow.holds Try.pinned (OpenSpec.upto fnExactIsLatticeSpec)

/-- 'laws.FnExactCellModulo', WHERE WHAT IT READS IS OF BULK AT MOST 1048576: true; the input reads as it did. -/
def fnExactCellModuloUptoRow : OpenClaim := { program := "yteiiabkdbogjkaa", sum := "485d7d74e832183011eb106d29c34e122c95618243ec462bd2941f46b648e545", func := "loop.example/g00919/laws.FnExactCellModulo", spec := "fnExactCellModulo", plainKeys := false, apart := false, narrowed := true }
def FnExactCellModuloUptoSaid : Prop := fnExactCellModuloUptoRow.holds Try.pinned (OpenSpec.upto fnExactCellModuloSpec)

/-- 'laws.FnExactDoesTile', WHERE WHAT IT READS IS OF BULK AT MOST 1048576: true; the input reads as it did. -/
def fnExactDoesTileUptoRow : OpenClaim := { program := "yteiiabkdbogjkaa", sum := "485d7d74e832183011eb106d29c34e122c95618243ec462bd2941f46b648e545", func := "loop.example/g00919/laws.FnExactDoesTile", spec := "fnExactDoesTile", plainKeys := false, apart := false, narrowed := true }
def FnExactDoesTileUptoSaid : Prop := fnExactDoesTileUptoRow.holds Try.pinned (OpenSpec.upto fnExactDoesTileSpec)

/-- 'laws.FnExactCountLattices', WHERE WHAT IT READS IS OF BULK AT MOST 1048576: true; the input reads as it did. -/
def fnExactCountLatticesUptoRow : OpenClaim := { program := "yteiiabkdbogjkaa", sum := "485d7d74e832183011eb106d29c34e122c95618243ec462bd2941f46b648e545", func := "loop.example/g00919/laws.FnExactCountLattices", spec := "fnExactCountLattices", plainKeys := false, apart := false, narrowed := true }
def FnExactCountLatticesUptoSaid : Prop := fnExactCountLatticesUptoRow.holds Try.pinned (OpenSpec.upto fnExactCountLatticesSpec)

/-- 'laws.FnExactFindLattice', WHERE WHAT IT READS IS OF BULK AT MOST 1048576: true; the input reads as it did. -/
def fnExactFindLatticeUptoRow : OpenClaim := { program := "yteiiabkdbogjkaa", sum := "485d7d74e832183011eb106d29c34e122c95618243ec462bd2941f46b648e545", func := "loop.example/g00919/laws.FnExactFindLattice", spec := "fnExactFindLattice", plainKeys := false, apart := false, narrowed := true }
def FnExactFindLatticeUptoSaid : Prop := fnExactFindLatticeUptoRow.holds Try.pinned (OpenSpec.upto fnExactFindLatticeSpec)

end Rows
end Go.Proofs.Yteiiabkdbogjkaa
