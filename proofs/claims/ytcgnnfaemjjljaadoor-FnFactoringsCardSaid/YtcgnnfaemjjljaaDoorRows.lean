/-
  NARROWER THAN 'FOR EVERY INPUT', by the rows' own cells (each row's printed sentence says how): FnExactTurnWord: laid · FnExactBackWord: laid · FnExactIsClosed: laid · FnExactWordArea: laid · FnExactIsFactoring: laid · FnExactFindFactoring: laid · FnTurnedWords: laid · FnFactorings: laid.
  DERIVED. THE GIVEN ROWS OF THIS SEAT. 8 by the template 'for every input the law returns true; each argument reads behind the call as it read before'; 0 by the template 'total and deterministic' (their statements: YtcgnnfaemjjljaaDoorTotals.lean).
  GIVEN WITH THE SEED: the statements are not yours to turn. If you find one false, say at which input.
  Laid BY PROGRAM, IN A SANDBOX (cutbox-rows.mjs): the forced cells as the released guide's own fill.sh prints them over the translation da24f418472491bf… (all of the seat's roots in one cut). By AI agents, Wed Nov 11 2026. No macro, syntax, notation, axiom, sorry.
-/
import Derived.Test.YtcgnnfaemjjljaaDoorChecked
import GoSem.PinnedTables
import GoSem.Claim
import GoSem.ClaimJoined
import GoSem.ClaimMapViews
import Derived.JoinedTies
import Derived.KernelRfl
namespace Go.Proofs.YtcgnnfaemjjljaaDoor
/- THE CELL 'sum', in the pinned program and in every row, IS THE sha256 OF THE DUMP (.gsa) THAT YtcgnnfaemjjljaaDoorProg.lean LOADS. Nothing in Lean hashes anything: it is a label: what it is worth is what the hold of that sum in a sandbox is worth. -/
noncomputable def Tryd.pinned : Pinned := { name := "ytcgnnfaemjjljaadoor", sum := "da24f418472491bfbf6a3d0071efd86f0f8a42db8aaa51818cd21cf051ea80aa", checked := Tryd.checked }
namespace Rows
def none {H : Type} : Left H := { results := [], args := [] }

/- WHAT THE LISTED PACKAGE-LEVEL VARIABLES READ AS WHEN THE CALL BEGINS. Each datum BY PROGRAM (the guide's laid-datum.mjs) off the statement by which the dump's own 'gosem.cut.vars' lays the variable. In a bare row this is a premise. The card (YtcgnnfaemjjljaaDoorCards.lean) ties it to the program's text. -/
def laid_unicode_utf8_acceptRanges {H : Type} : DataW H := .agg [.agg [.lit (.int .u8 128), .lit (.int .u8 191)], .agg [.lit (.int .u8 160), .lit (.int .u8 191)], .agg [.lit (.int .u8 128), .lit (.int .u8 159)], .agg [.lit (.int .u8 144), .lit (.int .u8 191)], .agg [.lit (.int .u8 128), .lit (.int .u8 143)], .agg [.lit (.int .u8 0), .lit (.int .u8 0)], .agg [.lit (.int .u8 0), .lit (.int .u8 0)], .agg [.lit (.int .u8 0), .lit (.int .u8 0)], .agg [.lit (.int .u8 0), .lit (.int .u8 0)], .agg [.lit (.int .u8 0), .lit (.int .u8 0)], .agg [.lit (.int .u8 0), .lit (.int .u8 0)], .agg [.lit (.int .u8 0), .lit (.int .u8 0)], .agg [.lit (.int .u8 0), .lit (.int .u8 0)], .agg [.lit (.int .u8 0), .lit (.int .u8 0)], .agg [.lit (.int .u8 0), .lit (.int .u8 0)], .agg [.lit (.int .u8 0), .lit (.int .u8 0)]]
/-- One of Go's own tables, pinned by name: the form's constant. -/
def laid_unicode_utf8_first : DataW Unit := Go.Pinned.utf8First

/-- 'laws.FnExactTurnWord': WHATEVER THE INPUT: true; the input reads as it did. -/
def fnExactTurnWordSpec : ChangeSpec := { name := "fnExactTurnWord", fn := fun _ => fun
  | [d1, d2] => { results := [.lit (.bool true)], args := [d1, d2] }
  | _ => none }
def fnExactTurnWordRow : OpenClaim := { program := "ytcgnnfaemjjljaadoor", sum := "da24f418472491bfbf6a3d0071efd86f0f8a42db8aaa51818cd21cf051ea80aa", func := "loop.example/g00919/laws.FnExactTurnWord", spec := "fnExactTurnWord", inPlace := ["internal/bytealg.IndexByteString", "internal/bytealg.IndexString"], named := ["unicode/utf8.first", "unicode/utf8.acceptRanges", "internal/bytealg.MaxLen"], apart := false, laid := [("unicode/utf8.acceptRanges", laid_unicode_utf8_acceptRanges), ("unicode/utf8.first", laid_unicode_utf8_first)] }
def FnExactTurnWordSaid : Prop := fnExactTurnWordRow.holds Tryd.pinned (OpenSpec.ofChange fnExactTurnWordSpec)

/-- ITS FALSE NEIGHBOUR: 'it returns false'. Refute it at one input. -/
def fnExactTurnWordWrong : ChangeSpec := { name := "fnExactTurnWord", fn := fun _ => fun
  | [d1, d2] => { results := [.lit (.bool false)], args := [d1, d2] }
  | _ => none }
def FnExactTurnWordWrongFalsely : Prop := fnExactTurnWordRow.holds Tryd.pinned (OpenSpec.ofChange fnExactTurnWordWrong)

/-- 'laws.FnExactBackWord': WHATEVER THE INPUT: true; the input reads as it did. -/
def fnExactBackWordSpec : ChangeSpec := { name := "fnExactBackWord", fn := fun _ => fun
  | [d] => { results := [.lit (.bool true)], args := [d] }
  | _ => none }
def fnExactBackWordRow : OpenClaim := { program := "ytcgnnfaemjjljaadoor", sum := "da24f418472491bfbf6a3d0071efd86f0f8a42db8aaa51818cd21cf051ea80aa", func := "loop.example/g00919/laws.FnExactBackWord", spec := "fnExactBackWord", inPlace := ["internal/bytealg.IndexByteString", "internal/bytealg.IndexString"], named := ["unicode/utf8.first", "unicode/utf8.acceptRanges", "internal/bytealg.MaxLen"], apart := false, laid := [("unicode/utf8.acceptRanges", laid_unicode_utf8_acceptRanges), ("unicode/utf8.first", laid_unicode_utf8_first)] }
def FnExactBackWordSaid : Prop := fnExactBackWordRow.holds Tryd.pinned (OpenSpec.ofChange fnExactBackWordSpec)

/-- ITS FALSE NEIGHBOUR: 'it returns false'. Refute it at one input. -/
def fnExactBackWordWrong : ChangeSpec := { name := "fnExactBackWord", fn := fun _ => fun
  | [d] => { results := [.lit (.bool false)], args := [d] }
  | _ => none }
def FnExactBackWordWrongFalsely : Prop := fnExactBackWordRow.holds Tryd.pinned (OpenSpec.ofChange fnExactBackWordWrong)

/-- 'laws.FnExactIsClosed': WHATEVER THE INPUT: true; the input reads as it did. -/
def fnExactIsClosedSpec : ChangeSpec := { name := "fnExactIsClosed", fn := fun _ => fun
  | [d] => { results := [.lit (.bool true)], args := [d] }
  | _ => none }
def fnExactIsClosedRow : OpenClaim := { program := "ytcgnnfaemjjljaadoor", sum := "da24f418472491bfbf6a3d0071efd86f0f8a42db8aaa51818cd21cf051ea80aa", func := "loop.example/g00919/laws.FnExactIsClosed", spec := "fnExactIsClosed", inPlace := ["internal/bytealg.IndexByteString", "internal/bytealg.IndexString", "internal/bytealg.CountString"], named := ["unicode/utf8.first", "unicode/utf8.acceptRanges", "internal/bytealg.MaxLen"], apart := false, laid := [("unicode/utf8.acceptRanges", laid_unicode_utf8_acceptRanges), ("unicode/utf8.first", laid_unicode_utf8_first)] }
def FnExactIsClosedSaid : Prop := fnExactIsClosedRow.holds Tryd.pinned (OpenSpec.ofChange fnExactIsClosedSpec)

/-- ITS FALSE NEIGHBOUR: 'it returns false'. Refute it at one input. -/
def fnExactIsClosedWrong : ChangeSpec := { name := "fnExactIsClosed", fn := fun _ => fun
  | [d] => { results := [.lit (.bool false)], args := [d] }
  | _ => none }
def FnExactIsClosedWrongFalsely : Prop := fnExactIsClosedRow.holds Tryd.pinned (OpenSpec.ofChange fnExactIsClosedWrong)

/-- 'laws.FnExactWordArea': WHATEVER THE INPUT: true; the input reads as it did. -/
def fnExactWordAreaSpec : ChangeSpec := { name := "fnExactWordArea", fn := fun _ => fun
  | [d] => { results := [.lit (.bool true)], args := [d] }
  | _ => none }
def fnExactWordAreaRow : OpenClaim := { program := "ytcgnnfaemjjljaadoor", sum := "da24f418472491bfbf6a3d0071efd86f0f8a42db8aaa51818cd21cf051ea80aa", func := "loop.example/g00919/laws.FnExactWordArea", spec := "fnExactWordArea", inPlace := ["internal/bytealg.IndexByteString", "internal/bytealg.IndexString", "internal/bytealg.CountString"], named := ["unicode/utf8.first", "unicode/utf8.acceptRanges", "internal/bytealg.MaxLen"], apart := false, laid := [("unicode/utf8.acceptRanges", laid_unicode_utf8_acceptRanges), ("unicode/utf8.first", laid_unicode_utf8_first)] }
def FnExactWordAreaSaid : Prop := fnExactWordAreaRow.holds Tryd.pinned (OpenSpec.ofChange fnExactWordAreaSpec)

/-- ITS FALSE NEIGHBOUR: 'it returns false'. Refute it at one input. -/
def fnExactWordAreaWrong : ChangeSpec := { name := "fnExactWordArea", fn := fun _ => fun
  | [d] => { results := [.lit (.bool false)], args := [d] }
  | _ => none }
def FnExactWordAreaWrongFalsely : Prop := fnExactWordAreaRow.holds Tryd.pinned (OpenSpec.ofChange fnExactWordAreaWrong)

/-- 'laws.FnExactIsFactoring': WHATEVER THE INPUT: true; the input reads as it did. -/
def fnExactIsFactoringSpec : ChangeSpec := { name := "fnExactIsFactoring", fn := fun _ => fun
  | [d1, d2, d3, d4] => { results := [.lit (.bool true)], args := [d1, d2, d3, d4] }
  | _ => none }
def fnExactIsFactoringRow : OpenClaim := { program := "ytcgnnfaemjjljaadoor", sum := "da24f418472491bfbf6a3d0071efd86f0f8a42db8aaa51818cd21cf051ea80aa", func := "loop.example/g00919/laws.FnExactIsFactoring", spec := "fnExactIsFactoring", inPlace := ["internal/bytealg.IndexByteString", "internal/bytealg.IndexString", "internal/bytealg.CountString"], named := ["unicode/utf8.first", "unicode/utf8.acceptRanges", "internal/bytealg.MaxLen"], apart := false, laid := [("unicode/utf8.acceptRanges", laid_unicode_utf8_acceptRanges), ("unicode/utf8.first", laid_unicode_utf8_first)] }
def FnExactIsFactoringSaid : Prop := fnExactIsFactoringRow.holds Tryd.pinned (OpenSpec.ofChange fnExactIsFactoringSpec)

/-- ITS FALSE NEIGHBOUR: 'it returns false'. Refute it at one input. -/
def fnExactIsFactoringWrong : ChangeSpec := { name := "fnExactIsFactoring", fn := fun _ => fun
  | [d1, d2, d3, d4] => { results := [.lit (.bool false)], args := [d1, d2, d3, d4] }
  | _ => none }
def FnExactIsFactoringWrongFalsely : Prop := fnExactIsFactoringRow.holds Tryd.pinned (OpenSpec.ofChange fnExactIsFactoringWrong)

/-- 'laws.FnExactFindFactoring': WHATEVER THE INPUT: true; the input reads as it did. -/
def fnExactFindFactoringSpec : ChangeSpec := { name := "fnExactFindFactoring", fn := fun _ => fun
  | [d] => { results := [.lit (.bool true)], args := [d] }
  | _ => none }
def fnExactFindFactoringRow : OpenClaim := { program := "ytcgnnfaemjjljaadoor", sum := "da24f418472491bfbf6a3d0071efd86f0f8a42db8aaa51818cd21cf051ea80aa", func := "loop.example/g00919/laws.FnExactFindFactoring", spec := "fnExactFindFactoring", inPlace := ["internal/bytealg.IndexByteString", "internal/bytealg.IndexString", "internal/bytealg.CountString"], named := ["unicode/utf8.first", "unicode/utf8.acceptRanges", "internal/bytealg.MaxLen"], apart := false, laid := [("unicode/utf8.acceptRanges", laid_unicode_utf8_acceptRanges), ("unicode/utf8.first", laid_unicode_utf8_first)] }
def FnExactFindFactoringSaid : Prop := fnExactFindFactoringRow.holds Tryd.pinned (OpenSpec.ofChange fnExactFindFactoringSpec)

/-- ITS FALSE NEIGHBOUR: 'it returns false'. Refute it at one input. -/
def fnExactFindFactoringWrong : ChangeSpec := { name := "fnExactFindFactoring", fn := fun _ => fun
  | [d] => { results := [.lit (.bool false)], args := [d] }
  | _ => none }
def FnExactFindFactoringWrongFalsely : Prop := fnExactFindFactoringRow.holds Tryd.pinned (OpenSpec.ofChange fnExactFindFactoringWrong)

/-- 'laws.FnTurnedWords': WHATEVER THE INPUT: true; the input reads as it did. -/
def fnTurnedWordsSpec : ChangeSpec := { name := "fnTurnedWords", fn := fun _ => fun
  | [d] => { results := [.lit (.bool true)], args := [d] }
  | _ => none }
def fnTurnedWordsRow : OpenClaim := { program := "ytcgnnfaemjjljaadoor", sum := "da24f418472491bfbf6a3d0071efd86f0f8a42db8aaa51818cd21cf051ea80aa", func := "loop.example/g00919/laws.FnTurnedWords", spec := "fnTurnedWords", inPlace := ["internal/bytealg.IndexByteString", "internal/bytealg.IndexString", "internal/bytealg.CountString"], named := ["unicode/utf8.first", "unicode/utf8.acceptRanges", "internal/bytealg.MaxLen"], apart := false, laid := [("unicode/utf8.acceptRanges", laid_unicode_utf8_acceptRanges), ("unicode/utf8.first", laid_unicode_utf8_first)] }
def FnTurnedWordsSaid : Prop := fnTurnedWordsRow.holds Tryd.pinned (OpenSpec.ofChange fnTurnedWordsSpec)

/-- ITS FALSE NEIGHBOUR: 'it returns false'. Refute it at one input. -/
def fnTurnedWordsWrong : ChangeSpec := { name := "fnTurnedWords", fn := fun _ => fun
  | [d] => { results := [.lit (.bool false)], args := [d] }
  | _ => none }
def FnTurnedWordsWrongFalsely : Prop := fnTurnedWordsRow.holds Tryd.pinned (OpenSpec.ofChange fnTurnedWordsWrong)

/-- 'laws.FnFactorings': WHATEVER THE INPUT: true; the input reads as it did. -/
def fnFactoringsSpec : ChangeSpec := { name := "fnFactorings", fn := fun _ => fun
  | [d] => { results := [.lit (.bool true)], args := [d] }
  | _ => none }
def fnFactoringsRow : OpenClaim := { program := "ytcgnnfaemjjljaadoor", sum := "da24f418472491bfbf6a3d0071efd86f0f8a42db8aaa51818cd21cf051ea80aa", func := "loop.example/g00919/laws.FnFactorings", spec := "fnFactorings", inPlace := ["internal/bytealg.IndexByteString", "internal/bytealg.IndexString", "internal/bytealg.CountString"], named := ["unicode/utf8.first", "unicode/utf8.acceptRanges", "internal/bytealg.MaxLen"], apart := false, laid := [("unicode/utf8.acceptRanges", laid_unicode_utf8_acceptRanges), ("unicode/utf8.first", laid_unicode_utf8_first)] }
def FnFactoringsSaid : Prop := fnFactoringsRow.holds Tryd.pinned (OpenSpec.ofChange fnFactoringsSpec)

/-- ITS FALSE NEIGHBOUR: 'it returns false'. Refute it at one input. -/
def fnFactoringsWrong : ChangeSpec := { name := "fnFactorings", fn := fun _ => fun
  | [d] => { results := [.lit (.bool false)], args := [d] }
  | _ => none }
def FnFactoringsWrongFalsely : Prop := fnFactoringsRow.holds Tryd.pinned (OpenSpec.ofChange fnFactoringsWrong)

/- THE SECOND FORM. 'bulk': how many values and letters a reading holds, each counted each time it is reached (what is shared counts as often as it is met; a slice's spare places count too). A statement '..UptoSaid' is the law's where the arguments, and the package variables that the reading takes, are together of bulk at most 1048576: NARROWER than '..Said'. Prove '..Said' where nothing that the law and all that it calls make is longer than what came in: it says more and counts as full. Else prove '..UptoSaid'. A law counts once. -/
mutual
def uptoBulk {H : Type} : DataW H → Nat
  | .lit (.string bytes) => bytes.length + 1
  | .lit _ => 1
  | .nil => 1
  | .ptr d => uptoBulk d + 1
  | .slice elems spare => uptoBulkAll elems + uptoBulkAll spare + 1
  | .agg parts => uptoBulkAll parts + 1
  | .iface _ d => uptoBulk d + 1
  | .map entries => uptoBulkEntries entries + 1
  | .held _ => 1
def uptoBulkAll {H : Type} : List (DataW H) → Nat
  | [] => 0
  | d :: r => uptoBulk d + uptoBulkAll r
def uptoBulkEntries {H : Type} : List (Lit × DataW H) → Nat
  | [] => 0
  | x :: r => uptoBulkEntry x + uptoBulkEntries r
def uptoBulkEntry {H : Type} : Lit × DataW H → Nat
  | (.string bytes, d) => bytes.length + uptoBulk d + 1
  | (_, d) => uptoBulk d + 1
 end
def uptoSmall : (H : Type) → List (DataW H) → Bool := fun _ ds => decide (uptoBulkAll ds ≤ 1048576)
def OpenSpec.upto (s : _root_.Go.ChangeSpec) : _root_.Go.OpenSpec := { _root_.Go.OpenSpec.ofChange s with cond := some uptoSmall }

/-- 'laws.FnExactTurnWord', WHERE WHAT IT READS IS OF BULK AT MOST 1048576: true; the input reads as it did. -/
def fnExactTurnWordUptoRow : OpenClaim := { program := "ytcgnnfaemjjljaadoor", sum := "da24f418472491bfbf6a3d0071efd86f0f8a42db8aaa51818cd21cf051ea80aa", func := "loop.example/g00919/laws.FnExactTurnWord", spec := "fnExactTurnWord", inPlace := ["internal/bytealg.IndexByteString", "internal/bytealg.IndexString"], named := ["unicode/utf8.first", "unicode/utf8.acceptRanges", "internal/bytealg.MaxLen"], apart := false, laid := [("unicode/utf8.acceptRanges", laid_unicode_utf8_acceptRanges), ("unicode/utf8.first", laid_unicode_utf8_first)], narrowed := true }
def FnExactTurnWordUptoSaid : Prop := fnExactTurnWordUptoRow.holds Tryd.pinned (OpenSpec.upto fnExactTurnWordSpec)

/-- 'laws.FnExactBackWord', WHERE WHAT IT READS IS OF BULK AT MOST 1048576: true; the input reads as it did. -/
def fnExactBackWordUptoRow : OpenClaim := { program := "ytcgnnfaemjjljaadoor", sum := "da24f418472491bfbf6a3d0071efd86f0f8a42db8aaa51818cd21cf051ea80aa", func := "loop.example/g00919/laws.FnExactBackWord", spec := "fnExactBackWord", inPlace := ["internal/bytealg.IndexByteString", "internal/bytealg.IndexString"], named := ["unicode/utf8.first", "unicode/utf8.acceptRanges", "internal/bytealg.MaxLen"], apart := false, laid := [("unicode/utf8.acceptRanges", laid_unicode_utf8_acceptRanges), ("unicode/utf8.first", laid_unicode_utf8_first)], narrowed := true }
def FnExactBackWordUptoSaid : Prop := fnExactBackWordUptoRow.holds Tryd.pinned (OpenSpec.upto fnExactBackWordSpec)

/-- 'laws.FnExactIsClosed', WHERE WHAT IT READS IS OF BULK AT MOST 1048576: true; the input reads as it did. -/
def fnExactIsClosedUptoRow : OpenClaim := { program := "ytcgnnfaemjjljaadoor", sum := "da24f418472491bfbf6a3d0071efd86f0f8a42db8aaa51818cd21cf051ea80aa", func := "loop.example/g00919/laws.FnExactIsClosed", spec := "fnExactIsClosed", inPlace := ["internal/bytealg.IndexByteString", "internal/bytealg.IndexString", "internal/bytealg.CountString"], named := ["unicode/utf8.first", "unicode/utf8.acceptRanges", "internal/bytealg.MaxLen"], apart := false, laid := [("unicode/utf8.acceptRanges", laid_unicode_utf8_acceptRanges), ("unicode/utf8.first", laid_unicode_utf8_first)], narrowed := true }
def FnExactIsClosedUptoSaid : Prop := fnExactIsClosedUptoRow.holds Tryd.pinned (OpenSpec.upto fnExactIsClosedSpec)

/-- 'laws.FnExactWordArea', WHERE WHAT IT READS IS OF BULK AT MOST 1048576: true; the input reads as it did. -/
def fnExactWordAreaUptoRow : OpenClaim := { program := "ytcgnnfaemjjljaadoor", sum := "da24f418472491bfbf6a3d0071efd86f0f8a42db8aaa51818cd21cf051ea80aa", func := "loop.example/g00919/laws.FnExactWordArea", spec := "fnExactWordArea", inPlace := ["internal/bytealg.IndexByteString", "internal/bytealg.IndexString", "internal/bytealg.CountString"], named := ["unicode/utf8.first", "unicode/utf8.acceptRanges", "internal/bytealg.MaxLen"], apart := false, laid := [("unicode/utf8.acceptRanges", laid_unicode_utf8_acceptRanges), ("unicode/utf8.first", laid_unicode_utf8_first)], narrowed := true }
def FnExactWordAreaUptoSaid : Prop := fnExactWordAreaUptoRow.holds Tryd.pinned (OpenSpec.upto fnExactWordAreaSpec)

/-- 'laws.FnExactIsFactoring', WHERE WHAT IT READS IS OF BULK AT MOST 1048576: true; the input reads as it did. -/
def fnExactIsFactoringUptoRow : OpenClaim := { program := "ytcgnnfaemjjljaadoor", sum := "da24f418472491bfbf6a3d0071efd86f0f8a42db8aaa51818cd21cf051ea80aa", func := "loop.example/g00919/laws.FnExactIsFactoring", spec := "fnExactIsFactoring", inPlace := ["internal/bytealg.IndexByteString", "internal/bytealg.IndexString", "internal/bytealg.CountString"], named := ["unicode/utf8.first", "unicode/utf8.acceptRanges", "internal/bytealg.MaxLen"], apart := false, laid := [("unicode/utf8.acceptRanges", laid_unicode_utf8_acceptRanges), ("unicode/utf8.first", laid_unicode_utf8_first)], narrowed := true }
def FnExactIsFactoringUptoSaid : Prop := fnExactIsFactoringUptoRow.holds Tryd.pinned (OpenSpec.upto fnExactIsFactoringSpec)

/-- 'laws.FnExactFindFactoring', WHERE WHAT IT READS IS OF BULK AT MOST 1048576: true; the input reads as it did. -/
def fnExactFindFactoringUptoRow : OpenClaim := { program := "ytcgnnfaemjjljaadoor", sum := "da24f418472491bfbf6a3d0071efd86f0f8a42db8aaa51818cd21cf051ea80aa", func := "loop.example/g00919/laws.FnExactFindFactoring", spec := "fnExactFindFactoring", inPlace := ["internal/bytealg.IndexByteString", "internal/bytealg.IndexString", "internal/bytealg.CountString"], named := ["unicode/utf8.first", "unicode/utf8.acceptRanges", "internal/bytealg.MaxLen"], apart := false, laid := [("unicode/utf8.acceptRanges", laid_unicode_utf8_acceptRanges), ("unicode/utf8.first", laid_unicode_utf8_first)], narrowed := true }
def FnExactFindFactoringUptoSaid : Prop := fnExactFindFactoringUptoRow.holds Tryd.pinned (OpenSpec.upto fnExactFindFactoringSpec)

/-- 'laws.FnTurnedWords', WHERE WHAT IT READS IS OF BULK AT MOST 1048576: true; the input reads as it did. -/
def fnTurnedWordsUptoRow : OpenClaim := { program := "ytcgnnfaemjjljaadoor", sum := "da24f418472491bfbf6a3d0071efd86f0f8a42db8aaa51818cd21cf051ea80aa", func := "loop.example/g00919/laws.FnTurnedWords", spec := "fnTurnedWords", inPlace := ["internal/bytealg.IndexByteString", "internal/bytealg.IndexString", "internal/bytealg.CountString"], named := ["unicode/utf8.first", "unicode/utf8.acceptRanges", "internal/bytealg.MaxLen"], apart := false, laid := [("unicode/utf8.acceptRanges", laid_unicode_utf8_acceptRanges), ("unicode/utf8.first", laid_unicode_utf8_first)], narrowed := true }
def FnTurnedWordsUptoSaid : Prop := fnTurnedWordsUptoRow.holds Tryd.pinned (OpenSpec.upto fnTurnedWordsSpec)

/-- 'laws.FnFactorings', WHERE WHAT IT READS IS OF BULK AT MOST 1048576: true; the input reads as it did. -/
def fnFactoringsUptoRow : OpenClaim := { program := "ytcgnnfaemjjljaadoor", sum := "da24f418472491bfbf6a3d0071efd86f0f8a42db8aaa51818cd21cf051ea80aa", func := "loop.example/g00919/laws.FnFactorings", spec := "fnFactorings", inPlace := ["internal/bytealg.IndexByteString", "internal/bytealg.IndexString", "internal/bytealg.CountString"], named := ["unicode/utf8.first", "unicode/utf8.acceptRanges", "internal/bytealg.MaxLen"], apart := false, laid := [("unicode/utf8.acceptRanges", laid_unicode_utf8_acceptRanges), ("unicode/utf8.first", laid_unicode_utf8_first)], narrowed := true }
def FnFactoringsUptoSaid : Prop := fnFactoringsUptoRow.holds Tryd.pinned (OpenSpec.upto fnFactoringsSpec)

end Rows
end Go.Proofs.YtcgnnfaemjjljaaDoor
